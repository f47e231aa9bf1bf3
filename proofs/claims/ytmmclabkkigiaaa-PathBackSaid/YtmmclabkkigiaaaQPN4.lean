/- Texts, one behind the other: A8e, A8f, A8j, PPb, KG, Lp, Lo, LoS, LpC, Ro16. -/
import Derived.Test.YtmmclabkkigiaaaRows
import Derived.ProofKit
import Derived.Deep.Slices
import Derived.Deep.Fields
import Derived.OpenShut
import Derived.Test.YtmmclabkkigiaaaQPN3
set_option linter.unusedVariables false
set_option linter.unusedSimpArgs false
set_option maxRecDepth 20000
namespace Go.Proofs.Ytmmclabkkigiaaa
open Go Go.RowKit
def sequal_B0 (xs : List ByteArray) (ys : List ByteArray) (k8 : Int → Option (Bool)) (p7 : Int) : Option (Bool) :=
 if p7 < (xs.length : Int) then (need (0 ≤ p7 ∧ p7 < (xs.length : Int)) <|
need (0 ≤ p7 ∧ p7 < (ys.length : Int)) <|
if ((xs.getD p7.toNat ByteArray.empty).toList == (ys.getD p7.toNat ByteArray.empty).toList) = true then (need (-9223372036854775808 ≤ (p7 + 1) ∧ (p7 + 1) ≤ 9223372036854775807) <|
k8 (p7 + 1)) else (some false)) else (some true)
def sequal_M (xs : List ByteArray) (ys : List ByteArray) : Option (Bool) :=
 if (xs.length : Int) = (ys.length : Int) then (iter (fun k_ s_ => sequal_B0 xs ys k_ s_) FUEL 0) else (some false)
theorem sequal_walk {xs : List ByteArray} {ys : List ByteArray} {xa ya : Option Addr} {xc yc : Nat} {r : Bool} (B : Nat) (w : World) (hx : CellsAt xa (kStr.cells xs) w) (hy : CellsAt ya (kStr.cells ys) w) (hm : sequal_M xs ys = some r) : Spec Try.prog 23 #[(.slice xa xs.length xc), (.slice ya ys.length yc)] B w [] (fun v H' => v = .bool r ∧ H' = []) := by
 refine spec_Q Try.func23 rfl fun hs => ?_
 unfold sequal_M at hm
 refine W.sr fun K1 hK1 => ?_
 refine zE 1 (hK1 _ _ ?_)
 refine W.seq fun K2 hK2 => ?_
 refine W.sr fun K3 hK3 => ?_
 refine zE 5 (hK3 _ _ ?_)
 refine W.cond (!decide ((xs.length : Int) = (ys.length : Int))) (by kernel_rfl) (fun h4 => ?_) (fun h4 => ?_)
 rotate_left
 ·
  have h4p : (xs.length : Int) = (ys.length : Int) := of_decide_eq_true (bnot_false h4)
  replace hm := ite_yes hm h4p
  refine W.skip ?_
  refine hK2 _ _ ?_
  refine W.seq fun K5 hK5 => ?_
  refine W.sr fun K6 hK6 => ?_
  refine zE 3 (hK6 _ _ ?_)
  refine W.block ?_
  refine W.loop_iter (G := Int) (σ := Int) (fun | p7 => p7) (fun | p7, s_, w_ => (∃ us, s_ = slots 26 [(0, (.slice xa xs.length xc)), (1, (.slice ya ys.length yc)), (12, (zi (xs.length : Int))), (13, (zi p7))] us) ∧ St B w [] w_ []) 0 ⟨slots_intro _ (by kernel_rfl), hs⟩ hm ?_
  rintro k8 ih9 p7 _ w10 ⟨⟨us, rfl⟩, hs11⟩ hm
  replace hm : sequal_B0 xs ys k8 p7 = some r := hm
  unfold sequal_B0 at hm
  refine W.sr fun K12 hK12 => ?_
  refine zE 1 (hK12 _ _ ?_)
  refine W.seq fun K13 hK13 => ?_
  refine W.cond (decide (p7 < (xs.length : Int))) (by kernel_rfl) (fun h14 => ?_) (fun h14 => ?_)
  ·
   obtain ⟨h14p, hm⟩ := iY hm h14
   refine W.skip ?_
   refine hK13 _ _ ?_
   refine W.seq fun K15 hK15 => ?_
   refine W.block ?_
   refine W.sr fun K16 hK16 => ?_
   refine zE 2 (hK16 _ _ ?_)
   refine W.seq fun K17 hK17 => ?_
   have hs18 := hs11.drew
   refine W.regionD [(0, 0), (0, 0), (3, 3), (4, 4), (0, 0), (0, 0), (48, 48), (64, 64), (136, 136)] (fun w_ => St B w [] w_ []) (by kernel_rfl) hs18 ?_
   refine zA (.slice xa xs.length xc) 0 hs18 ?_
   refine zA (zi p7) 1 hs18 ?_
   obtain ⟨h20, hm⟩ := need_some hm
   have hk19 := lt_toNat h20
   refine any_R 2 (by kernel_rfl) (fun _ hS_ => runs_index (a := xa) (n := xs.length) (z := p7) (size := 1) p7.toNat (nat_of h20.1) hk19 (kStr.addr (hs18.oldCells hx) hk19) (by kernel_rfl)) hs18 ?_
   refine zB 3 ((adr xa (p7.toNat * 1)).add 0) (.string (xs.getD p7.toNat ByteArray.empty)) (fun _ hS_ => (kStr.at (hS_.oldCells hx) hk19 ByteArray.empty 0 rfl)) hs18 ?_
   refine zA (.slice ya ys.length yc) 4 hs18 ?_
   refine zA (zi p7) 5 hs18 ?_
   obtain ⟨h22, hm⟩ := need_some hm
   have hk21 := lt_toNat h22
   refine any_R 6 (by kernel_rfl) (fun _ hS_ => runs_index (a := ya) (n := ys.length) (z := p7) (size := 1) p7.toNat (nat_of h22.1) hk21 (kStr.addr (hs18.oldCells hy) hk21) (by kernel_rfl)) hs18 ?_
   refine zB 7 ((adr ya (p7.toNat * 1)).add 0) (.string (ys.getD p7.toNat ByteArray.empty)) (fun _ hS_ => (kStr.at (hS_.oldCells hy) hk21 ByteArray.empty 0 rfl)) hs18 ?_
   refine zA (.bool (!((xs.getD p7.toNat ByteArray.empty).toList == (ys.getD p7.toNat ByteArray.empty).toList))) 8 hs18 ?_
   refine any_done (by kernel_rfl) ?_
   refine hK17 _ _ ?_
   refine W.cond (!((xs.getD p7.toNat ByteArray.empty).toList == (ys.getD p7.toNat ByteArray.empty).toList)) (by kernel_rfl) (fun h23 => ?_) (fun h23 => ?_)
   rotate_left
   ·
    have h23p : ((xs.getD p7.toNat ByteArray.empty).toList == (ys.getD p7.toNat ByteArray.empty).toList) = true := (bnot_false h23)
    replace hm := ite_yes hm h23p
    refine W.skip ?_
    refine normal_block ?_
    refine hK15 _ _ ?_
    refine W.region ?_
    obtain ⟨h24, hm⟩ := need_some hm
    refine zI _ (wrap_i64 h24.1 h24.2) ?_
    refine zE 1 ?_
    refine loopAt_next ?_
    exact ih9 (p7 + 1) _ _ ⟨slots_intro _ (by kernel_rfl), hs18⟩ hm
   have h23p : ¬ (((xs.getD p7.toNat ByteArray.empty).toList == (ys.getD p7.toNat ByteArray.empty).toList) = true) := ne_true_of_eq_false (bnot_true h23)
   replace hm := ite_no hm h23p
   refine W.sr fun K25 hK25 => ?_
   refine zE 1 (hK25 _ _ ?_)
   refine W.ret (ret_block (ret_seq (ret_seq (ret_block (ret_seq ?_)))))
   obtain rfl := some_inj hm
   refine ret_of (.bool false) (by kernel_rfl) ⟨_, ⟨rfl, rfl⟩, hs18⟩
  obtain ⟨h14p, hm⟩ := iN hm h14
  refine W.exit (exit_seq (exit_seq (exit_here ?_)))
  refine hK5 _ _ ?_
  refine W.sr fun K26 hK26 => ?_
  refine zE 1 (hK26 _ _ ?_)
  refine W.ret ?_
  obtain rfl := some_inj hm
  refine ret_of (.bool true) (by kernel_rfl) ⟨_, ⟨rfl, rfl⟩, hs11⟩
 have h4p : ¬ ((xs.length : Int) = (ys.length : Int)) := of_decide_eq_false (bnot_true h4)
 replace hm := ite_no hm h4p
 refine W.sr fun K27 hK27 => ?_
 refine zE 1 (hK27 _ _ ?_)
 refine W.ret (ret_seq ?_)
 obtain rfl := some_inj hm
 refine ret_of (.bool false) (by kernel_rfl) ⟨_, ⟨rfl, rfl⟩, hs⟩
end Go.Proofs.Ytmmclabkkigiaaa

set_option maxRecDepth 20000
set_option maxHeartbeats 4000000
namespace Go.Proofs.Ytmmclabkkigiaaa
open Go Go.RowKit
def pjoin_M (xs : List ByteArray) : Option (ByteArray) :=
 need (xs.length ≤ 1000000) <|
need ((joinB xs).size ≤ 1000000000) <|
need ((ByteArray.mk #[47]).size + (joinB xs).size ≤ 9223372036854775807) <|
(psplit_M ((ByteArray.mk #[47]) ++ (joinB xs))).bind fun r12 =>
if r12.2 = 0 then ((sequal_M r12.1 xs).bind fun r20 =>
if r20 = true then (some ((ByteArray.mk #[47]) ++ (joinB xs))) else (some ByteArray.empty)) else (some ByteArray.empty)
theorem pjoin_walk {xs : List ByteArray} {xa : Option Addr} {xc : Nat} {r : ByteArray} (B : Nat) (w : World) (hx : CellsAt xa (kStr.cells xs) w) (hcap : xs.length ≤ xc) (hm : pjoin_M xs = some r) : Spec Try.prog 10 #[(.slice xa xs.length xc)] B w [] (fun v H' => v = .string r ∧ H' = []) := by
 refine spec_Q Try.func10 rfl fun hs => ?_
 unfold pjoin_M at hm
 refine W.sr fun K1 hK1 => ?_
 refine zE 1 (hK1 _ _ ?_)
 refine W.sr fun K2 hK2 => ?_
 refine zR 1 ?_
 obtain ⟨h3, hm⟩ := need_some hm
 obtain ⟨h4, hm⟩ := need_some hm
 refine zC00 hs (join_spec (xs := xs) (c := xc) (hx := (hs.oldCells hx)) (hc := hcap) (hn := h3) (hl := h4) B _) fun w5 hs7 => ?_
 obtain ⟨h8, hm⟩ := need_some hm
 refine ops_R (v := (.string ((ByteArray.mk #[47]) ++ (joinB xs)))) (runs_strAdd (a := (ByteArray.mk #[47])) (b := (joinB xs)) h8 (by kernel_rfl)) ?_
 refine zE 1 (hK2 _ _ ?_)
 refine W.sr fun K9 hK9 => ?_
 refine zR 1 ?_
 obtain ⟨r12, h13, hm⟩ := bind_some hm
 refine ops_call0 hs7 (by kernel_rfl) (psplit_walk (tx_ := ((ByteArray.mk #[47]) ++ (joinB xs))) (hm := h13) B _) ?_
 rintro _ _ w14 ⟨a10, c11, rfl, rfl⟩ hs15
 have hs16 := St.ap1 hs15
 refine zE 5 (hK9 _ _ ?_)
 refine W.seq fun K17 hK17 => ?_
 refine W.sr fun K18 hK18 => ?_
 refine zR 3 ?_
 rcases Bool.eq_false_or_eq_true (!decide (r12.2 = 0)) with h19 | h19
 rotate_left
 ·
  have h19p : r12.2 = 0 := of_decide_eq_true (bnot_false h19)
  replace hm := ite_yes hm h19p
  refine zS 16 h19 ?_
  refine zS 15 h19 ?_
  refine zR 2 ?_
  obtain ⟨r20, h21, hm⟩ := bind_some hm
  refine zC00 hs16 (sequal_walk (xs := r12.1) (ys := xs) (xc := c11) (yc := xc) (hx := (St.kcells kStr hs16 0 rfl)) (hy := (hs16.oldCells hx)) (hm := h21) B _) fun w22 hs24 => ?_
  refine zE 2 (hK18 _ _ ?_)
  refine W.cond (!r20) (by kernel_rfl) (fun h25 => ?_) (fun h25 => ?_)
  rotate_left
  ·
   have h25p : r20 = true := (bnot_false h25)
   replace hm := ite_yes hm h25p
   refine W.skip ?_
   refine hK17 _ _ ?_
   refine W.sr fun K26 hK26 => ?_
   refine zE 2 (hK26 _ _ ?_)
   refine W.ret ?_
   obtain rfl := some_inj hm
   have hs27 := St.tk0 hs24
   refine ret_of (.string ((ByteArray.mk #[47]) ++ (joinB xs))) (by kernel_rfl) ⟨_, ⟨rfl, rfl⟩, hs27⟩
  have h25p : ¬ (r20 = true) := ne_true_of_eq_false (bnot_true h25)
  replace hm := ite_no hm h25p
  refine W.sr fun K28 hK28 => ?_
  refine zE 1 (hK28 _ _ ?_)
  refine W.ret (ret_seq ?_)
  obtain rfl := some_inj hm
  have hs29 := St.tk0 hs24
  refine ret_of (.string ByteArray.empty) (by kernel_rfl) ⟨_, ⟨rfl, rfl⟩, hs29⟩
 have h19p : ¬ (r12.2 = 0) := of_decide_eq_false (bnot_true h19)
 replace hm := ite_no hm h19p
 refine zS 16 h19 ?_
 refine zS 15 h19 ?_
 refine zE 5 (hK18 _ _ ?_)
 refine W.cond_true true (by kernel_rfl) rfl ?_
 refine W.sr fun K30 hK30 => ?_
 refine zE 1 (hK30 _ _ ?_)
 refine W.ret (ret_seq ?_)
 obtain rfl := some_inj hm
 have hs31 := St.tk0 hs16
 refine ret_of (.string ByteArray.empty) (by kernel_rfl) ⟨_, ⟨rfl, rfl⟩, hs31⟩
end Go.Proofs.Ytmmclabkkigiaaa

set_option maxRecDepth 20000
set_option maxHeartbeats 4000000
namespace Go.Proofs.Ytmmclabkkigiaaa
open Go Go.RowKit
def rjoin16_B0 (xs : List ByteArray) (k11 : (ByteArray × Int) → Option (ByteArray)) (p9 : ByteArray) (p10 : Int) : Option (ByteArray) :=
 if p10 < (xs.length : Int) then (need (0 ≤ p10 ∧ p10 < (xs.length : Int)) <|
(rmay15_M (xs.getD p10.toNat ByteArray.empty)).bind fun r23 =>
if r23 = true then (need (p9.size + (ByteArray.mk #[47]).size ≤ 9223372036854775807) <|
need (0 ≤ p10 ∧ p10 < (xs.length : Int)) <|
need ((p9 ++ (ByteArray.mk #[47])).size + (xs.getD p10.toNat ByteArray.empty).size ≤ 9223372036854775807) <|
if (((p9 ++ (ByteArray.mk #[47])) ++ (xs.getD p10.toNat ByteArray.empty)).size : Int) > 200 then (some ByteArray.empty) else (need (-9223372036854775808 ≤ (p10 + 1) ∧ (p10 + 1) ≤ 9223372036854775807) <|
k11 (((p9 ++ (ByteArray.mk #[47])) ++ (xs.getD p10.toNat ByteArray.empty)), (p10 + 1)))) else (some ByteArray.empty)) else (some p9)
def rjoin16_M (xs : List ByteArray) : Option (ByteArray) :=
 if (xs.length : Int) = 0 then (some (ByteArray.mk #[47])) else (iter (fun k_ s_ => rjoin16_B0 xs k_ s_.1 s_.2) FUEL (ByteArray.empty, 0))
theorem rjoin16_walk {xs : List ByteArray} {xa : Option Addr} {xc : Nat} {r : ByteArray} (B : Nat) (w : World) (hx : CellsAt xa (kStr.cells xs) w) (hcap : xs.length ≤ xc) (hm : rjoin16_M xs = some r) : Spec Try.prog 11 #[(.slice xa xs.length xc)] B w [] (fun v H' => v = .string r ∧ H' = []) := by
 refine spec_Q Try.func11 rfl fun hs => ?_
 unfold rjoin16_M at hm
 refine W.sr fun K1 hK1 => ?_
 refine zE 1 (hK1 _ _ ?_)
 refine W.seq fun K2 hK2 => ?_
 refine W.sr fun K3 hK3 => ?_
 refine zE 3 (hK3 _ _ ?_)
 refine W.cond (decide ((xs.length : Int) = 0)) (by kernel_rfl) (fun h4 => ?_) (fun h4 => ?_)
 ·
  obtain ⟨h4p, hm⟩ := iY hm h4
  refine W.sr fun K5 hK5 => ?_
  refine zE 1 (hK5 _ _ ?_)
  refine W.ret (ret_seq ?_)
  obtain rfl := some_inj hm
  refine ret_of (.string (ByteArray.mk #[47])) (by kernel_rfl) ⟨_, ⟨rfl, rfl⟩, hs⟩
 obtain ⟨h4p, hm⟩ := iN hm h4
 refine W.skip ?_
 refine hK2 _ _ ?_
 refine W.sr fun K6 hK6 => ?_
 refine zE 1 (hK6 _ _ ?_)
 refine W.seq fun K7 hK7 => ?_
 refine W.sr fun K8 hK8 => ?_
 refine zE 1 (hK8 _ _ ?_)
 refine W.block ?_
 refine W.loop_iter (G := ByteArray × Int) (σ := ByteArray × Int) (fun | (p9, p10) => (p9, p10)) (fun | (p9, p10), s_, w_ => (∃ us, s_ = slots 31 [(0, (.slice xa xs.length xc)), (3, (.string p9)), (4, (zi p10))] us) ∧ St B w [] w_ []) (ByteArray.empty, 0) ⟨slots_intro _ (by kernel_rfl), hs⟩ hm ?_
 rintro k11 ih12 ⟨p9, p10⟩ _ w13 ⟨⟨us, rfl⟩, hs14⟩ hm
 replace hm : rjoin16_B0 xs k11 p9 p10 = some r := hm
 unfold rjoin16_B0 at hm
 refine W.seq fun K15 hK15 => ?_
 refine W.sr fun K16 hK16 => ?_
 refine zE 4 (hK16 _ _ ?_)
 refine W.cond (decide (p10 < (xs.length : Int))) (by kernel_rfl) (fun h17 => ?_) (fun h17 => ?_)
 ·
  obtain ⟨h17p, hm⟩ := iY hm h17
  refine W.skip ?_
  refine hK15 _ _ ?_
  refine W.seq fun K18 hK18 => ?_
  refine W.block ?_
  refine W.seq fun K19 hK19 => ?_
  refine W.sr fun K20 hK20 => ?_
  refine zR 2 ?_
  obtain ⟨h22, hm⟩ := need_some hm
  have hk21 := lt_toNat h22
  refine ops_R (runs_index (a := xa) (n := xs.length) (z := p10) (size := 1) p10.toNat (nat_of h22.1) hk21 (kStr.addr (hs14.oldCells hx) hk21) (by kernel_rfl)) ?_
  refine zL ((adr xa (p10.toNat * 1)).add 0) (.string (xs.getD p10.toNat ByteArray.empty)) (kStr.at (hs14.oldCells hx) hk21 ByteArray.empty 0 rfl) ?_
  obtain ⟨r23, h24, hm⟩ := bind_some hm
  refine zC00 hs14 (rmay15_walk (tx_ := (xs.getD p10.toNat ByteArray.empty)) (hm := h24) B _) fun w25 hs27 => ?_
  refine zE 1 (hK20 _ _ ?_)
  refine W.cond (!r23) (by kernel_rfl) (fun h28 => ?_) (fun h28 => ?_)
  rotate_left
  ·
   have h28p : r23 = true := (bnot_false h28)
   replace hm := ite_yes hm h28p
   refine W.skip ?_
   refine hK19 _ _ ?_
   refine W.sr fun K29 hK29 => ?_
   refine zR 1 ?_
   obtain ⟨h30, hm⟩ := need_some hm
   refine ops_R (v := (.string (p9 ++ (ByteArray.mk #[47])))) (runs_strAdd (a := p9) (b := (ByteArray.mk #[47])) h30 (by kernel_rfl)) ?_
   refine zR 2 ?_
   obtain ⟨h32, hm⟩ := need_some hm
   have hk31 := lt_toNat h32
   refine ops_R (runs_index (a := xa) (n := xs.length) (z := p10) (size := 1) p10.toNat (nat_of h32.1) hk31 (kStr.addr (hs27.oldCells hx) hk31) (by kernel_rfl)) ?_
   refine zL ((adr xa (p10.toNat * 1)).add 0) (.string (xs.getD p10.toNat ByteArray.empty)) (kStr.at (hs27.oldCells hx) hk31 ByteArray.empty 0 rfl) ?_
   obtain ⟨h33, hm⟩ := need_some hm
   refine ops_R (v := (.string ((p9 ++ (ByteArray.mk #[47])) ++ (xs.getD p10.toNat ByteArray.empty)))) (runs_strAdd (a := (p9 ++ (ByteArray.mk #[47]))) (b := (xs.getD p10.toNat ByteArray.empty)) h33 (by kernel_rfl)) ?_
   refine zE 1 (hK29 _ _ ?_)
   refine W.sr fun K34 hK34 => ?_
   refine zE 3 (hK34 _ _ ?_)
   refine W.cond (decide ((((p9 ++ (ByteArray.mk #[47])) ++ (xs.getD p10.toNat ByteArray.empty)).size : Int) > 200)) (by kernel_rfl) (fun h35 => ?_) (fun h35 => ?_)
   ·
    obtain ⟨h35p, hm⟩ := iY hm h35
    refine W.sr fun K36 hK36 => ?_
    refine zE 1 (hK36 _ _ ?_)
    refine W.ret (ret_block (ret_seq (ret_seq (ret_block (ret_seq ?_)))))
    obtain rfl := some_inj hm
    refine ret_of (.string ByteArray.empty) (by kernel_rfl) ⟨_, ⟨rfl, rfl⟩, hs27⟩
   obtain ⟨h35p, hm⟩ := iN hm h35
   refine W.skip ?_
   refine normal_block ?_
   refine hK18 _ _ ?_
   refine W.region ?_
   refine zR 1 ?_
   obtain ⟨h37, hm⟩ := need_some hm
   refine zI _ (wrap_i64 h37.1 h37.2) ?_
   refine zE 1 ?_
   refine loopAt_next ?_
   exact ih12 (((p9 ++ (ByteArray.mk #[47])) ++ (xs.getD p10.toNat ByteArray.empty)), (p10 + 1)) _ _ ⟨slots_intro _ (by kernel_rfl), hs27⟩ hm
  have h28p : ¬ (r23 = true) := ne_true_of_eq_false (bnot_true h28)
  replace hm := ite_no hm h28p
  refine W.sr fun K38 hK38 => ?_
  refine zE 1 (hK38 _ _ ?_)
  refine W.ret (ret_seq (ret_block (ret_seq (ret_seq (ret_block (ret_seq ?_))))))
  obtain rfl := some_inj hm
  refine ret_of (.string ByteArray.empty) (by kernel_rfl) ⟨_, ⟨rfl, rfl⟩, hs27⟩
 obtain ⟨h17p, hm⟩ := iN hm h17
 refine W.exit (exit_seq (exit_seq (exit_here ?_)))
 refine hK7 _ _ ?_
 refine W.sr fun K39 hK39 => ?_
 refine zE 2 (hK39 _ _ ?_)
 refine W.ret ?_
 obtain rfl := some_inj hm
 refine ret_of (.string p9) (by kernel_rfl) ⟨_, ⟨rfl, rfl⟩, hs14⟩
end Go.Proofs.Ytmmclabkkigiaaa

namespace Go.Proofs.Ytmmclabkkigiaaa
open Go Go.RowKit
theorem sequal_eq (xs ys : List ByteArray) (h : xs.length ≤ 1000000) : sequal_M xs ys = some (decide (xs = ys)) := by
  unfold sequal_M
  by_cases hl : xs.length = ys.length
  · rw [if_pos (by omega)]
    refine iter_run (fun p : Int => 0 ≤ p ∧ p ≤ (xs.length : Int) ∧ ∀ j : Nat, j < p.toNat → xs.getD j ByteArray.empty = ys.getD j ByteArray.empty) (fun p => ((xs.length : Int) - p).toNat) ?_ _ _ ⟨by omega, by omega, fun j hj => absurd hj (Nat.not_lt_zero _)⟩ (fuel_lt (by omega))
    rintro k p ⟨h1, h2, h3⟩ ih
    unfold sequal_B0
    by_cases hp : p < (xs.length : Int)
    · rw [if_pos hp]
      refine need_of (by omega) (need_of (by omega) ?_)
      by_cases e : xs.getD p.toNat ByteArray.empty = ys.getD p.toNat ByteArray.empty
      · rw [if_pos (beq_toList.2 e)]
        refine need_of (by omega) (ih _ ⟨by omega, by omega, fun j hj => ?_⟩ (by omega))
        by_cases ej : j = p.toNat
        · rw [ej]; exact e
        · exact h3 j (by omega)
      · rw [if_neg fun q => e (beq_toList.1 q), decide_eq_false fun q => e (by rw [q])]
    · rw [if_neg hp, decide_eq_true]
      refine List.ext_getElem hl fun j a b => ?_
      have := h3 j (by omega)
      simpa [List.getD, a, b] using this
  · rw [if_neg (by omega), decide_eq_false fun q => hl (by rw [q])]
theorem rsame16_eq (xs ys : List ByteArray) (h : xs.length ≤ 1000000) : rsame16_M xs ys = some (decide (xs = ys)) := by
  have e : rsame16_M xs ys = sequal_M xs ys := rfl
  rw [e, sequal_eq xs ys h]
theorem fin_all : ∀ (ns : List (List UInt8)) (q : List ByteArray), (∀ x ∈ ns, mayB (bs x) = true) → fin q ns = (q ++ ns.map bs, 0)
  | [], q, _ => by unfold fin; simp
  | x :: ns, q, h => by
    unfold fin
    rw [if_pos (h x (by simp)), fin_all ns _ fun y hy => h y (by simp [hy])]
    simp
theorem fin_out : ∀ (ns : List (List UInt8)) (q : List ByteArray), ((∀ x ∈ ns, mayB (bs x) = true) ∧ fin q ns = (q ++ ns.map bs, 0)) ∨ ((∃ x ∈ ns, mayB (bs x) = false) ∧ fin q ns = ([], 13))
  | [], q => .inl ⟨fun x hx => by simp at hx, by unfold fin; simp⟩
  | x :: ns, q => by
    unfold fin
    cases hm : mayB (bs x) with
    | false =>
      rw [if_neg (by decide)]
      exact .inr ⟨⟨x, by simp, hm⟩, rfl⟩
    | true =>
      rw [if_pos rfl]
      rcases fin_out ns (q ++ [bs x]) with ⟨a, b⟩ | ⟨⟨y, a, b⟩, c⟩
      · refine .inl ⟨fun y hy => ?_, by rw [b]; simp⟩
        rcases List.mem_cons.1 hy with rfl | hy
        · exact hm
        · exact a y hy
      · exact .inr ⟨⟨y, by simp [a], b⟩, c⟩
theorem tail_cons (x : List UInt8) (r : List (List UInt8)) : Lib.joinTail [47] (x :: r) = 47 :: (x ++ Lib.joinTail [47] r) := by simp [Lib.joinTail]
theorem tail_snoc (ys : List (List UInt8)) (z : List UInt8) : Lib.joinTail [47] (ys ++ [z]) = Lib.joinTail [47] ys ++ ([47] ++ z) := by simp [Lib.joinTail]
theorem go_join : ∀ (l cur : List UInt8), Lib.joinTail [47] (go cur l) = 47 :: (cur ++ l)
  | [], cur => by unfold go; rw [tail_cons]; simp [Lib.joinTail]
  | b :: l, cur => by
    have hgo : go cur (b :: l) = if b = 47 then cur :: go [] l else go (cur ++ [b]) l := rfl
    rw [hgo]
    by_cases hb : b = 47
    · rw [if_pos hb, tail_cons, go_join l [], hb]
      simp
    · rw [if_neg hb, go_join l (cur ++ [b])]
      simp
theorem go_names : ∀ (r : List (List UInt8)) (x cur : List UInt8), 47 ∉ x → (∀ y ∈ r, 47 ∉ y) → go cur (x ++ Lib.joinTail [47] r) = (cur ++ x) :: r
  | [], [], cur, _, _ => by simp [Lib.joinTail, go]
  | y :: r, [], cur, _, h => by
    have ih := go_names r y [] (h y (by simp)) fun z hz => h z (by simp [hz])
    rw [tail_cons, List.nil_append]
    show (if (47 : UInt8) = 47 then cur :: go [] (y ++ Lib.joinTail [47] r) else _) = _
    rw [if_pos rfl, ih]
    simp
  | r, b :: x, cur, hx, h => by
    have hb : b ≠ 47 := fun e => hx (by simp [e])
    have ih := go_names r x (cur ++ [b]) (fun e => hx (by simp [e])) h
    show (if b = 47 then _ else go (cur ++ [b]) (x ++ Lib.joinTail [47] r)) = _
    rw [if_neg hb, ih]
    simp
termination_by r x => (r.length, x.length)
theorem go_ne (l cur : List UInt8) : go cur l ≠ [] := by
  induction l generalizing cur with
  | nil => simp [go]
  | cons b l ih =>
    have hgo : go cur (b :: l) = if b = 47 then cur :: go [] l else go (cur ++ [b]) l := rfl
    rw [hgo]
    split
    · simp
    · exact ih _
theorem may_slash {s : ByteArray} (h : mayB s = true) : 47 ∉ s.data.toList := by
  intro hm
  have hb := (mayB_iff.1 h).2.2.1
  unfold badB at hb
  rw [anyB] at hb
  have : (s.data.toList.any fun b => b == 47 || b == 0) = true := List.any_eq_true.2 ⟨47, hm, by decide⟩
  rw [this] at hb
  cases hb
def pjS (xs : List ByteArray) : ByteArray := ByteArray.mk #[47] ++ joinB xs
theorem data_append (a b : ByteArray) : (a ++ b).data.toList = a.data.toList ++ b.data.toList := by simp [ByteArray.data_append]
theorem pjS_data (x : ByteArray) (r : List ByteArray) : (pjS (x :: r)).data.toList = Lib.joinTail [47] ((x :: r).map (·.data.toList)) := by
  unfold pjS joinB
  rw [data_append, List.map_cons, Lib.join_cons, tail_cons]
  simp
theorem tail_len (ys : List (List UInt8)) (h : ∀ y ∈ ys, y.length ≤ 1000) : (Lib.joinTail [47] ys).length ≤ 1001 * ys.length := by
  induction ys with
  | nil => simp [Lib.joinTail]
  | cons y ys ih =>
    have h1 := h y (by simp)
    have h2 := ih fun z hz => h z (by simp [hz])
    rw [tail_cons]
    simp only [List.length_cons, List.length_append]
    omega
theorem pjS_size {xs : List ByteArray} (hn : xs.length ≤ 1000) (h : ∀ x ∈ xs, x.size ≤ 1000) : (pjS xs).size = 1 + (joinB xs).size ∧ (pjS xs).size ≤ 1001001 := by
  have e1 : (pjS xs).size = 1 + (joinB xs).size := by unfold pjS; rw [ByteArray.size_append]; rfl
  refine ⟨e1, ?_⟩
  cases xs with
  | nil => decide +kernel
  | cons x r =>
    have hd := pjS_data x r
    have hl := data_len (pjS (x :: r))
    have ht := tail_len ((x :: r).map (·.data.toList)) fun y hy => by
      obtain ⟨z, hz, rfl⟩ := List.mem_map.1 hy
      rw [data_len]
      exact h z hz
    rw [List.length_map] at ht
    rw [hd] at hl
    omega
def pj (xs : List ByteArray) : ByteArray := if xs.all mayB = true ∧ (pjS xs).size ≤ 200 then pjS xs else ByteArray.empty
theorem map_bs (xs : List ByteArray) : (xs.map (·.data.toList)).map bs = xs := by
  rw [List.map_map]
  induction xs with
  | nil => rfl
  | cons x xs ih =>
    rw [List.map_cons, ih]
    exact congrArg (· :: xs) (bs_data x)
theorem spl_join {xs : List ByteArray} (ha : xs.all mayB = true) (hs : (pjS xs).size ≤ 200) : spl (pjS xs) = (xs, 0) := by
  cases xs with
  | nil => decide +kernel
  | cons x r =>
    have hall : ∀ y ∈ x :: r, mayB y = true := fun y hy => List.all_eq_true.1 ha y hy
    have hd := pjS_data x r
    rw [List.map_cons, tail_cons] at hd
    have hsl : slashB (pjS (x :: r)) = true := by unfold slashB; rw [hd]; rfl
    have hne : pjS (x :: r) ≠ ByteArray.mk #[47] := fun e => by
      rw [e] at hd
      have h1 := (mayB_iff.1 (hall x (by simp))).1
      have hl := data_len x
      have h2 : ([] : List UInt8) = x.data.toList ++ Lib.joinTail [47] (r.map (·.data.toList)) := (List.cons.inj hd).2
      have := congrArg List.length h2
      simp only [List.length_nil, List.length_append] at this
      omega
    unfold spl
    rw [if_neg (by rintro (q | q); omega; rw [hsl] at q; cases q), if_neg hne, hd, List.drop_succ_cons, List.drop_zero,
      go_names _ _ _ (may_slash (hall x (by simp))) (fun y hy => by
        obtain ⟨z, hz, rfl⟩ := List.mem_map.1 hy
        exact may_slash (hall z (by simp [hz]))), List.nil_append, fin_all]
    · have := map_bs (x :: r)
      rw [List.map_cons] at this
      rw [this]
      rfl
    · intro y hy
      have : y ∈ (x :: r).map (·.data.toList) := by rw [List.map_cons]; exact hy
      obtain ⟨z, hz, rfl⟩ := List.mem_map.1 this
      rw [bs_data]
      exact hall z hz
theorem spl_all (tx : ByteArray) : ((spl tx).2 = 0 ∧ (spl tx).1.all mayB = true) ∨ spl tx = ([], 13) := by
  unfold spl
  split
  · exact .inr rfl
  · split
    · exact .inl ⟨rfl, rfl⟩
    · rcases fin_out (go [] (tx.data.toList.drop 1)) [] with ⟨a, b⟩ | ⟨_, b⟩
      · rw [b]
        refine .inl ⟨rfl, ?_⟩
        simp only [List.nil_append, List.all_eq_true]
        intro x hx
        obtain ⟨y, hy, rfl⟩ := List.mem_map.1 hx
        exact a y hy
      · exact .inr b
theorem spl_len (tx : ByteArray) : (spl tx).1.length ≤ 201 := by
  unfold spl
  split
  · simp
  · rename_i hq
    split
    · simp
    · rcases fin_out (go [] (tx.data.toList.drop 1)) [] with ⟨_, b⟩ | ⟨_, b⟩
      · rw [b]
        have key : ∀ (l cur : List UInt8), (go cur l).length ≤ l.length + 1 := by
          intro l
          induction l with
          | nil => intro cur; simp [go]
          | cons c l ih =>
            intro cur
            have hgo : go cur (c :: l) = if c = 47 then cur :: go [] l else go (cur ++ [c]) l := rfl
            rw [hgo]
            split
            · have := ih []; simp only [List.length_cons]; omega
            · have := ih (cur ++ [c]); simp only [List.length_cons]; omega
        have := key (tx.data.toList.drop 1) []
        simp only [List.nil_append, List.length_map]
        rw [List.length_drop, data_len] at this
        have : ¬ ((tx.size : Int) > 200) := fun z => hq (.inl z)
        omega
      · rw [b]; simp
theorem pjoin_eq {xs : List ByteArray} (hn : xs.length ≤ 1000) (h : ∀ x ∈ xs, x.size ≤ 1000) : pjoin_M xs = some (pj xs) := by
  obtain ⟨z1, z2⟩ := pjS_size hn h
  unfold pjoin_M
  refine need_of (by omega) (need_of (by omega) (need_of (by have : (ByteArray.mk #[47]).size = 1 := rfl; omega) ?_))
  show (psplit_M (pjS xs)).bind _ = _
  refine bind_of (psplit_eq _) ?_
  have hsl := spl_len (pjS xs)
  unfold pj
  by_cases hg : xs.all mayB = true ∧ (pjS xs).size ≤ 200
  · rw [if_pos hg, spl_join hg.1 hg.2, if_pos rfl]
    refine bind_of (sequal_eq _ _ (by simp only; omega)) ?_
    rw [decide_eq_true rfl, if_pos rfl]
    rfl
  · rw [if_neg hg]
    rcases spl_all (pjS xs) with ⟨a, b⟩ | a
    · rw [if_pos a]
      refine bind_of (sequal_eq _ _ (by omega)) ?_
      rw [decide_eq_false, if_neg (by decide)]
      intro e
      rw [e] at b
      refine hg ⟨b, ?_⟩
      by_cases h200 : (pjS xs).size ≤ 200
      · exact h200
      · have : spl (pjS xs) = ([], 13) := by unfold spl; rw [if_pos (.inl (by omega))]
        rw [this] at a
        cases a
    · rw [a]
      rfl
theorem rjoin_eq {xs : List ByteArray} (hn : xs.length ≤ 1000) (h : ∀ x ∈ xs, x.size ≤ 1000) : rjoin16_M xs = some (pj xs) := by
  unfold rjoin16_M
  by_cases h0 : xs = []
  · subst h0
    rw [if_pos (by simp)]
    have : pj [] = ByteArray.mk #[47] := by decide +kernel
    rw [this]
  have hpos : 0 < xs.length := List.length_pos_iff.2 h0
  rw [if_neg (by omega)]
  refine iter_run (fun s : ByteArray × Int => (0 ≤ s.2 ∧ s.2 ≤ (xs.length : Int)) ∧ s.1.data.toList = Lib.joinTail [47] ((xs.take s.2.toNat).map (·.data.toList)) ∧ (xs.take s.2.toNat).all mayB = true ∧ s.1.size ≤ 200) (fun s => ((xs.length : Int) - s.2).toNat) ?_ _ _ ⟨by simp, by simp [Lib.joinTail], by simp, by simp⟩ (fuel_lt (by simp only; omega))
  rintro k ⟨s, p⟩ ⟨h1, h2, h3, h4⟩ ih
  simp only at h1 h2 h3 h4 ih
  show rjoin16_B0 xs k s p = _
  unfold rjoin16_B0
  have tot : ∀ (n : Nat), n ≤ xs.length → (Lib.joinTail [47] ((xs.take n).map (·.data.toList))).length ≤ (pjS xs).size := by
    intro n hn
    cases xs with
    | nil => exact absurd rfl h0
    | cons x r =>
      rw [← data_len, pjS_data]
      conv => rhs; rw [← List.take_append_drop n (x :: r), List.map_append]
      simp only [Lib.joinTail, List.map_append, List.flatten_append, List.length_append]
      omega
  by_cases hp : p < (xs.length : Int)
  · rw [if_pos hp]
    refine need_of (by omega) (bind_of (rmay15_eqP _) ?_)
    have hpl : p.toNat < xs.length := by omega
    have hg : xs.getD p.toNat ByteArray.empty = xs[p.toNat] := by simp [List.getD, hpl]
    have hmem : xs[p.toNat] ∈ xs := List.getElem_mem hpl
    have hsz := h _ hmem
    rw [hg]
    cases hm : mayB xs[p.toNat] with
    | false =>
      rw [if_neg (by decide)]
      unfold pj
      rw [if_neg]
      rintro ⟨q, _⟩
      have := List.all_eq_true.1 q _ hmem
      rw [this] at hm
      cases hm
    | true =>
      rw [if_pos rfl]
      have hd : ((s ++ ByteArray.mk #[47]) ++ xs[p.toNat]).data.toList = Lib.joinTail [47] ((xs.take (p.toNat + 1)).map (·.data.toList)) := by
        rw [data_append, data_append, h2, List.take_add_one, List.getElem?_eq_getElem hpl, Option.toList_some, List.map_append, List.map_cons, List.map_nil, tail_snoc, List.append_assoc]
      have hsl : ((s ++ ByteArray.mk #[47]) ++ xs[p.toNat]).size = s.size + 1 + xs[p.toNat].size := by rw [ByteArray.size_append, ByteArray.size_append]; rfl
      have h47 : (ByteArray.mk #[47]).size = 1 := rfl
      have hsl2 : (s ++ ByteArray.mk #[47]).size = s.size + 1 := by rw [ByteArray.size_append]; rfl
      refine need_of (by omega) (need_of (by omega) (need_of (by omega) ?_))
      by_cases h200 : (((s ++ ByteArray.mk #[47]) ++ xs[p.toNat]).size : Int) > 200
      · rw [if_pos h200]
        unfold pj
        rw [if_neg]
        rintro ⟨_, q⟩
        have := tot (p.toNat + 1) (by omega)
        rw [← hd, data_len] at this
        omega
      · rw [if_neg h200]
        refine need_of (by omega) (ih _ ⟨by simp only; omega, ?_, ?_, by simp only; omega⟩ (by simp only; omega))
        · simp only
          rw [show (p + 1).toNat = p.toNat + 1 by omega]
          exact hd
        · simp only
          rw [show (p + 1).toNat = p.toNat + 1 by omega, List.take_add_one, List.all_append, h3, List.getElem?_eq_getElem hpl]
          simp [hm]
  · rw [if_neg hp]
    rw [List.take_of_length_le (by omega)] at h2 h3
    have e : s = pjS xs := by
      cases xs with
      | nil => exact absurd rfl h0
      | cons x r => rw [← bs_data s, h2, ← pjS_data, bs_data]
    unfold pj
    rw [if_pos ⟨h3, by rw [← e]; exact h4⟩, e]
end Go.Proofs.Ytmmclabkkigiaaa

namespace Go.Proofs.Ytmmclabkkigiaaa
open Go Go.RowKit
structure TGeo where
  c0 : Int
  c1 : Int
  c2 : Int
def kGeo : Kind TGeo := ⟨33, 3, fun x => [.int .i64 x.c0, .int .i64 x.c1, .int .i64 x.c2], by decide, fun _ => rfl, fun _ => rfl⟩
def good_Geo (x : TGeo) : Prop := (-9223372036854775808 ≤ x.c0 ∧ x.c0 ≤ 9223372036854775807) ∧ (-9223372036854775808 ≤ x.c1 ∧ x.c1 ≤ 9223372036854775807) ∧ (-9223372036854775808 ≤ x.c2 ∧ x.c2 ≤ 9223372036854775807)
end Go.Proofs.Ytmmclabkkigiaaa

namespace Go.Proofs.Ytmmclabkkigiaaa
open Go.ChangeShapes Go.WideShapes Go.ChangeAt Go.RowKit Go.Deep
theorem law_own : ownKnob Try.prog.godebug = none := by kernel_rfl
theorem law_laid : laidOutB Try.prog = true := by kernel_rfl
theorem law_calls {P : Program} {f : FuncId} {args : Array Value} {w : World} (h : Spec P f args w.heap.size w [] (fun v H' => v = .bool true ∧ H' = [])) :
    Calls P f args w fun e w' => e = .returned (.bool true) ∧ Below w.heap.size w w' := by
  refine (h [] (Nat.le_refl _) (fun _ hb => (List.not_mem_nil hb).elim)).mono ?_
  rintro e w' ⟨v, rfl, H', l', ⟨rfl, rfl⟩, hs, hu⟩
  exact ⟨rfl, hu.os, hu.tape, hu.output, hu.size, fun k hk => hu.block k hk (by simp)⟩
section
variable {H : Type} {enc : TypeId × Value → H} {P : Program}
theorem law_trods (hl : laidOutB P = true) {W W' : World} (hB : Below W.heap.size W W') : ∀ {ts : List TypeId} {vs : List Value} {ds : List (DataW H)} {ps : List MemPlace},
    (ts.all fun t => P.readableRec t && decide (t < P.types.size)) = true → DataW.TrodAll enc P W 0 (fun _ => true) true ts vs ds ps → (∀ x ∈ ps, x.block < W.heap.size) → DataW.TrodAll enc P W' 0 (fun b => decide (b < W.heap.size)) true ts vs ds ps
  | [], [], [], _, _, h, _ => h
  | t :: ts, v :: vs, d :: ds, ps, hp, h, hlt => by
    obtain ⟨p, q, h1, h2, rfl⟩ := h
    simp only [List.all_cons, Bool.and_eq_true, decide_eq_true_eq] at hp
    exact ⟨p, q, Below.trod hl hp.1.1 hp.1.2 h1 hB (fun x hx => hlt x (List.mem_append_left _ hx)), law_trods hl hB hp.2 h2 (fun x hx => hlt x (List.mem_append_right _ hx)), rfl⟩
theorem law_post {s : ChangeSpec} {f : Func} {tb : TypeId} {W W' : World} {args : Array Value} {ds gs : List (DataW H)} {before : List MemPlace} (hl : laidOutB P = true)
    (hp : (f.params.toList.all fun t => P.readableRec t && decide (t < P.types.size)) = true) (hv : s.vars = []) (hr : f.resultTypes = #[tb]) (hb : P.underlying tb = some .bool)
    (hW : DataW.Whole enc P f.params.toList s.vars false W args.toList ds gs before) (hB : Below W.heap.size W W') (hfn : (s.fn H ds).results = [.lit (.bool true)] ∧ (s.fn H ds).args = ds ∧ (s.fn H ds).vars = []) :
    ∃ v, (Ending.returned (.bool true)) = .returned v ∧ s.post enc P f false true false false W args v W' := by
  have hW' := hW
  obtain ⟨p, q, hA, hV, rfl, _, _⟩ := hW'
  rw [hv] at hV
  obtain ⟨rfl, rfl⟩ := trodVars_none hV
  have hlt : ∀ x ∈ p ++ [], x.block < W.heap.size := fun x hx => hW.lt x hx
  have e : ds ++ [] = ds := List.append_nil ds
  refine ⟨_, rfl, ds, [], p ++ [], [], p, [], hW, ?_, ?_, ?_, hB.frame _, fun h => by cases h⟩
  · rw [e, hfn.1, hr]; exact trodAll_mk1 (shut_bool hb true)
  · rw [e, hfn.2.1]; exact law_trods hl hB hp hA (fun x hx => hlt x (by simpa using hx))
  · rw [e, hfn.2.2, hv]; exact rfl
end
section
variable {α : Type} (K : Kind α) {H : Type} {enc : TypeId × Value → H} {P : Program} {w : World} {base : Nat} {sp : Nat → Bool}
theorem list_of {Q : Nat → α → Prop} : ∀ n : Nat, (∀ i, i < n → ∃ x, Q i x) → ∃ l : List α, l.length = n ∧ ∀ (i : Nat) (x : α), l[i]? = some x → Q i x
  | 0, _ => ⟨[], rfl, fun i x h => by simp at h⟩
  | n + 1, h => by
    obtain ⟨l, hl, hq⟩ := list_of n (fun i hi => h i (by omega))
    obtain ⟨x, hx⟩ := h n (by omega)
    refine ⟨l ++ [x], by simp [hl], fun i y hy => ?_⟩
    by_cases hi : i < n
    · rw [List.getElem?_append_left (by omega)] at hy; exact hq i y hy
    · rw [List.getElem?_append_right (by omega)] at hy
      have h0 : i - l.length = 0 := by
        have := (List.getElem?_eq_some_iff.1 hy).1
        simp at this; omega
      rw [h0] at hy
      have e : i = n := by
        have := (List.getElem?_eq_some_iff.1 hy).1
        omega
      simp only [List.getElem?_cons_zero, Option.some.injEq] at hy
      subst hy e; exact hx
theorem Kind.cells_at {l : List α} {j : Nat} {c : Value} (h : (K.cells l)[j]? = some c) : ∃ (i k : Nat) (x : α), j = i * K.size + k ∧ l[i]? = some x ∧ (K.elem x)[k]? = some c := by
  have hlt := (List.getElem?_eq_some_iff.1 h).1
  rw [K.length] at hlt
  have hi : j / K.size < l.length := Nat.div_lt_of_lt_mul (by rw [Nat.mul_comm]; exact hlt)
  have hm : j % K.size < K.size := Nat.mod_lt _ K.pos
  have e : j = j / K.size * K.size + j % K.size := by rw [Nat.mul_comm]; exact (Nat.div_add_mod j K.size).symm
  rw [e, K.get (l[j / K.size]) hi hm] at h
  refine ⟨_, _, l[j / K.size], e, List.getElem?_eq_getElem hi, ?_⟩
  simpa [List.getD, List.getElem?_eq_getElem hi] using h
end
end Go.Proofs.Ytmmclabkkigiaaa

namespace Go.Proofs.Ytmmclabkkigiaaa
open Go.ChangeShapes Go.WideShapes Go.ChangeAt Go.RowKit Go.Deep
inductive Leaf where
  | int (k : IntKind)
  | bool
def LeafOk : Leaf → Value → Prop
  | .int k, v => ∃ z, v = .int k z ∧ (Lit.int k z).wf = true
  | .bool, v => ∃ b, v = .bool b
def LeavesOk : List Leaf → List Value → Prop
  | [], [] => True
  | k :: ks, v :: vs => LeafOk k v ∧ LeavesOk ks vs
  | _, _ => False
theorem LeavesOk.append : ∀ {ks ks' : List Leaf} {vs vs' : List Value}, LeavesOk ks vs → LeavesOk ks' vs' → LeavesOk (ks ++ ks') (vs ++ vs')
  | [], _, [], _, _, h => h
  | _ :: _, _, _ :: _, _, h, h' => ⟨h.1, LeavesOk.append h.2 h'⟩
def leavesF (P : Program) (lv : TypeId → Option (List Leaf)) : Nat → List Field → Option (List Leaf)
  | _, [] => some []
  | off, f :: fs => match lv f.type with
    | some l => if f.offset = off ∧ P.cellsOf f.type = l.length then (leavesF P lv (off + l.length) fs).map (l ++ ·) else none
    | none => none
def leaves (P : Program) : Nat → TypeId → Option (List Leaf)
  | 0, _ => none
  | m + 1, t => match P.underlying t with
    | some (.int k) => some [.int k]
    | some .bool => some [.bool]
    | some (.struct fs) => match leavesF P (leaves P m) 0 fs.toList with
      | some ks => if P.cellsOf t = ks.length then some ks else none
      | none => none
    | some (.array n e) => match leaves P m e with
      | some l => if P.cellsOf e = l.length ∧ P.cellsOf t = n * l.length then some ((List.replicate n l).flatten) else none
      | none => none
    | _ => none
section
variable {H : Type} {enc : TypeId × Value → H} {P : Program} {w : World} {base : Nat} {sp : Nat → Bool} {held : Bool}
theorem leavesF_ok {lv : TypeId → Option (List Leaf)} (hlv : ∀ (t : TypeId) (ks : List Leaf) (n : Nat) (cs : List Value) (y : DataW H × List MemPlace), lv t = some ks → DataW.trod enc P w base sp held n t cs = some y → LeavesOk ks cs) {cs : List Value} :
    ∀ (fs : List Field) (off : Nat) (ks : List Leaf), leavesF P lv off fs = some ks → (∀ (i : Nat) (f : Field), fs[i]? = some f → ∃ n y, DataW.trod enc P w base sp held n f.type ((cs.drop f.offset).take (P.cellsOf f.type)) = some y) →
      LeavesOk ks ((cs.drop off).take ks.length)
  | [], off, ks, h, _ => by
    simp only [leavesF, Option.some.injEq] at h
    subst h
    simp [LeavesOk]
  | f :: fs, off, ks, h, ht => by
    unfold leavesF at h
    split at h
    · rename_i l hl
      split at h
      · rename_i hc
        simp only [Option.map_eq_some_iff] at h
        obtain ⟨ks', hk', rfl⟩ := h
        obtain ⟨n, y, hy⟩ := ht 0 f rfl
        rw [hc.1, hc.2] at hy
        have h1 := hlv _ _ _ _ _ hl hy
        have h2 := leavesF_ok hlv fs (off + l.length) ks' hk' (fun i g hg => ht (i + 1) g (by simpa using hg))
        have e : (cs.drop off).take (l ++ ks').length = (cs.drop off).take l.length ++ (cs.drop (off + l.length)).take ks'.length := by
          rw [List.length_append, List.take_add, List.drop_drop]
        rw [e]
        exact h1.append h2
      · cases h
    · cases h
theorem leavesA_ok {l : List Leaf} {cs : List Value} : ∀ n : Nat, (∀ i, i < n → LeavesOk l ((cs.drop (i * l.length)).take l.length)) → LeavesOk ((List.replicate n l).flatten) (cs.take (n * l.length))
  | 0, _ => by simp [LeavesOk]
  | n + 1, h => by
    have h1 := leavesA_ok n (fun i hi => h i (by omega))
    have h2 := h n (by omega)
    have e1 : (List.replicate (n + 1) l).flatten = (List.replicate n l).flatten ++ l := by
      rw [List.replicate_succ', List.flatten_append]
      simp
    have e2 : cs.take ((n + 1) * l.length) = cs.take (n * l.length) ++ (cs.drop (n * l.length)).take l.length := by
      rw [Nat.add_mul, Nat.one_mul, List.take_add]
    rw [e1, e2]
    exact h1.append h2
theorem leaves_ok : ∀ (m : Nat) (t : TypeId) (ks : List Leaf) (n : Nat) (cs : List Value) (y : DataW H × List MemPlace), leaves P m t = some ks → DataW.trod enc P w base sp held n t cs = some y → LeavesOk ks cs
  | 0, t, ks, n, cs, y, h, _ => by simp [leaves] at h
  | m + 1, t, ks, n, cs, y, h, hy => by
    unfold leaves at h
    split at h
    · rename_i k hu
      cases h
      obtain ⟨z, rfl, _, hz⟩ := DataW.trod_int hu hy
      exact ⟨⟨z, rfl, hz⟩, trivial⟩
    · rename_i hu
      cases h
      cases n with
      | zero => simp [DataW.trod] at hy
      | succ n =>
        unfold DataW.trod at hy
        rw [hu] at hy
        split at hy <;> simp_all [LeavesOk, LeafOk]
    · rename_i fs hu
      split at h
      · rename_i ks' hks
        split at h
        · rename_i hc
          cases h
          obtain ⟨xs, n', rfl, _, hlen, hxl, hf⟩ := DataW.trod_struct hu hy
          have h1 := leavesF_ok (cs := cs) (leaves_ok m) fs.toList 0 _ hks (fun i f hi => by
            have hi' : fs[i]? = some f := by simpa using hi
            have := hf i f hi'
            have hil : i < xs.length := by rw [hxl]; exact (Array.getElem?_eq_some_iff.1 hi').1
            rw [List.getElem?_eq_getElem hil] at this
            exact ⟨_, _, this⟩)
          simpa [← hc, ← hlen] using h1
        · cases h
      · cases h
    · rename_i k e hu
      split at h
      · rename_i l hl
        split at h
        · rename_i hc
          cases h
          obtain ⟨xs, n', rfl, _, hlen, hxl, hf⟩ := DataW.trod_array hu hy
          have h1 := leavesA_ok (l := l) (cs := cs) k (fun i hi => by
            have := hf i hi
            have hil : i < xs.length := by rw [hxl]; exact hi
            rw [List.getElem?_eq_getElem hil, hc.1] at this
            exact leaves_ok m _ _ _ _ _ hl this)
          simpa [← hc.2, ← hlen] using h1
        · cases h
      · cases h
    · cases h
theorem open_agg {α : Type} (K : Kind α) (good : α → Prop) {fs : Array Field} {ks : List Leaf} (m : Nat) (hs : P.underlying K.e = some (.struct fs)) (hl : leaves P m K.e = some ks) (hread : ∀ cs, LeavesOk ks cs → ∃ x, cs = K.elem x ∧ good x)
    {r : Reach} {b0 : Nat} {v : Value} {d : DataW H} {ps : List MemPlace} (hval : Value.okWide P w r b0 K.e v) (h : DataW.Trod enc P w base sp held K.e v d ps) : ∃ x, v = .agg (K.elem x).toArray ∧ good x := by
  obtain ⟨cs, rfl, _⟩ := okWide_struct hs hval
  obtain ⟨fuel, h⟩ := h
  have h' : DataW.trod enc P w base sp held fuel K.e cs.toList = some (d, ps) := h
  obtain ⟨x, hx, hg⟩ := hread _ (leaves_ok m _ _ _ _ _ hl h')
  exact ⟨x, by rw [← hx], hg⟩
end
theorem leaves_cons {k : Leaf} {ks : List Leaf} : ∀ {cs : List Value}, LeavesOk (k :: ks) cs → ∃ v vs, cs = v :: vs ∧ LeafOk k v ∧ LeavesOk ks vs
  | v :: vs, h => ⟨v, vs, rfl, h.1, h.2⟩
  | [], h => h.elim
theorem leaves_nil : ∀ {cs : List Value}, LeavesOk [] cs → cs = []
  | [], _ => rfl
  | _ :: _, h => h.elim
end Go.Proofs.Ytmmclabkkigiaaa

namespace Go.Proofs.Ytmmclabkkigiaaa
namespace WithText
open Go.ChangeShapes Go.WideShapes Go.ChangeAt Go.RowKit Go.Deep
inductive Leaf where
  | int (k : IntKind)
  | bool
  | string
def LeafOk : Leaf → Value → Prop
  | .int k, v => ∃ z, v = .int k z ∧ (Lit.int k z).wf = true
  | .bool, v => ∃ b, v = .bool b
  | .string, v => ∃ b, v = .string b ∧ b.size ≤ maxLen
def LeavesOk : List Leaf → List Value → Prop
  | [], [] => True
  | k :: ks, v :: vs => LeafOk k v ∧ LeavesOk ks vs
  | _, _ => False
theorem LeavesOk.append : ∀ {ks ks' : List Leaf} {vs vs' : List Value}, LeavesOk ks vs → LeavesOk ks' vs' → LeavesOk (ks ++ ks') (vs ++ vs')
  | [], _, [], _, _, h => h
  | _ :: _, _, _ :: _, _, h, h' => ⟨h.1, LeavesOk.append h.2 h'⟩
def leavesF (P : Program) (lv : TypeId → Option (List Leaf)) : Nat → List Field → Option (List Leaf)
  | _, [] => some []
  | off, f :: fs => match lv f.type with
    | some l => if f.offset = off ∧ P.cellsOf f.type = l.length then (leavesF P lv (off + l.length) fs).map (l ++ ·) else none
    | none => none
def leaves (P : Program) : Nat → TypeId → Option (List Leaf)
  | 0, _ => none
  | m + 1, t => match P.underlying t with
    | some (.int k) => some [.int k]
    | some .bool => some [.bool]
    | some .string => some [.string]
    | some (.struct fs) => match leavesF P (leaves P m) 0 fs.toList with
      | some ks => if P.cellsOf t = ks.length then some ks else none
      | none => none
    | some (.array n e) => match leaves P m e with
      | some l => if P.cellsOf e = l.length ∧ P.cellsOf t = n * l.length then some ((List.replicate n l).flatten) else none
      | none => none
    | _ => none
section
variable {H : Type} {enc : TypeId × Value → H} {P : Program} {w : World} {base : Nat} {sp : Nat → Bool} {held : Bool}
theorem leavesF_ok {lv : TypeId → Option (List Leaf)} (hlv : ∀ (t : TypeId) (ks : List Leaf) (n : Nat) (cs : List Value) (y : DataW H × List MemPlace), lv t = some ks → DataW.trod enc P w base sp held n t cs = some y → LeavesOk ks cs) {cs : List Value} :
    ∀ (fs : List Field) (off : Nat) (ks : List Leaf), leavesF P lv off fs = some ks → (∀ (i : Nat) (f : Field), fs[i]? = some f → ∃ n y, DataW.trod enc P w base sp held n f.type ((cs.drop f.offset).take (P.cellsOf f.type)) = some y) →
      LeavesOk ks ((cs.drop off).take ks.length)
  | [], off, ks, h, _ => by
    simp only [leavesF, Option.some.injEq] at h
    subst h
    simp [LeavesOk]
  | f :: fs, off, ks, h, ht => by
    unfold leavesF at h
    split at h
    · rename_i l hl
      split at h
      · rename_i hc
        simp only [Option.map_eq_some_iff] at h
        obtain ⟨ks', hk', rfl⟩ := h
        obtain ⟨n, y, hy⟩ := ht 0 f rfl
        rw [hc.1, hc.2] at hy
        have h1 := hlv _ _ _ _ _ hl hy
        have h2 := leavesF_ok hlv fs (off + l.length) ks' hk' (fun i g hg => ht (i + 1) g (by simpa using hg))
        have e : (cs.drop off).take (l ++ ks').length = (cs.drop off).take l.length ++ (cs.drop (off + l.length)).take ks'.length := by
          rw [List.length_append, List.take_add, List.drop_drop]
        rw [e]
        exact h1.append h2
      · cases h
    · cases h
theorem leavesA_ok {l : List Leaf} {cs : List Value} : ∀ n : Nat, (∀ i, i < n → LeavesOk l ((cs.drop (i * l.length)).take l.length)) → LeavesOk ((List.replicate n l).flatten) (cs.take (n * l.length))
  | 0, _ => by simp [LeavesOk]
  | n + 1, h => by
    have h1 := leavesA_ok n (fun i hi => h i (by omega))
    have h2 := h n (by omega)
    have e1 : (List.replicate (n + 1) l).flatten = (List.replicate n l).flatten ++ l := by
      rw [List.replicate_succ', List.flatten_append]
      simp
    have e2 : cs.take ((n + 1) * l.length) = cs.take (n * l.length) ++ (cs.drop (n * l.length)).take l.length := by
      rw [Nat.add_mul, Nat.one_mul, List.take_add]
    rw [e1, e2]
    exact h1.append h2
theorem leaves_ok : ∀ (m : Nat) (t : TypeId) (ks : List Leaf) (n : Nat) (cs : List Value) (y : DataW H × List MemPlace), leaves P m t = some ks → DataW.trod enc P w base sp held n t cs = some y → LeavesOk ks cs
  | 0, t, ks, n, cs, y, h, _ => by simp [leaves] at h
  | m + 1, t, ks, n, cs, y, h, hy => by
    unfold leaves at h
    split at h
    · rename_i k hu
      cases h
      obtain ⟨z, rfl, _, hz⟩ := DataW.trod_int hu hy
      exact ⟨⟨z, rfl, hz⟩, trivial⟩
    · rename_i hu
      cases h
      cases n with
      | zero => simp [DataW.trod] at hy
      | succ n =>
        unfold DataW.trod at hy
        rw [hu] at hy
        split at hy <;> simp_all [LeavesOk, LeafOk]
    · rename_i hu
      cases h
      obtain ⟨b, rfl, _, hz⟩ := DataW.trod_string hu hy
      exact ⟨⟨b, rfl, hz⟩, trivial⟩
    · rename_i fs hu
      split at h
      · rename_i ks' hks
        split at h
        · rename_i hc
          cases h
          obtain ⟨xs, n', rfl, _, hlen, hxl, hf⟩ := DataW.trod_struct hu hy
          have h1 := leavesF_ok (cs := cs) (leaves_ok m) fs.toList 0 _ hks (fun i f hi => by
            have hi' : fs[i]? = some f := by simpa using hi
            have := hf i f hi'
            have hil : i < xs.length := by rw [hxl]; exact (Array.getElem?_eq_some_iff.1 hi').1
            rw [List.getElem?_eq_getElem hil] at this
            exact ⟨_, _, this⟩)
          simpa [← hc, ← hlen] using h1
        · cases h
      · cases h
    · rename_i k e hu
      split at h
      · rename_i l hl
        split at h
        · rename_i hc
          cases h
          obtain ⟨xs, n', rfl, _, hlen, hxl, hf⟩ := DataW.trod_array hu hy
          have h1 := leavesA_ok (l := l) (cs := cs) k (fun i hi => by
            have := hf i hi
            have hil : i < xs.length := by rw [hxl]; exact hi
            rw [List.getElem?_eq_getElem hil, hc.1] at this
            exact leaves_ok m _ _ _ _ _ hl this)
          simpa [← hc.2, ← hlen] using h1
        · cases h
      · cases h
    · cases h
theorem open_agg {α : Type} (K : Kind α) (good : α → Prop) {fs : Array Field} {ks : List Leaf} (m : Nat) (hs : P.underlying K.e = some (.struct fs)) (hl : leaves P m K.e = some ks) (hread : ∀ cs, LeavesOk ks cs → ∃ x, cs = K.elem x ∧ good x)
    {r : Reach} {b0 : Nat} {v : Value} {d : DataW H} {ps : List MemPlace} (hval : Value.okWide P w r b0 K.e v) (h : DataW.Trod enc P w base sp held K.e v d ps) : ∃ x, v = .agg (K.elem x).toArray ∧ good x := by
  obtain ⟨cs, rfl, _⟩ := okWide_struct hs hval
  obtain ⟨fuel, h⟩ := h
  have h' : DataW.trod enc P w base sp held fuel K.e cs.toList = some (d, ps) := h
  obtain ⟨x, hx, hg⟩ := hread _ (leaves_ok m _ _ _ _ _ hl h')
  exact ⟨x, by rw [← hx], hg⟩
end
theorem leaves_cons {k : Leaf} {ks : List Leaf} : ∀ {cs : List Value}, LeavesOk (k :: ks) cs → ∃ v vs, cs = v :: vs ∧ LeafOk k v ∧ LeavesOk ks vs
  | v :: vs, h => ⟨v, vs, rfl, h.1, h.2⟩
  | [], h => h.elim
theorem leaves_nil : ∀ {cs : List Value}, LeavesOk [] cs → cs = []
  | [], _ => rfl
  | _ :: _, h => h.elim
end WithText
end Go.Proofs.Ytmmclabkkigiaaa

namespace Go.Proofs.Ytmmclabkkigiaaa
open Go.ChangeShapes Go.WideShapes Go.ChangeAt Go.RowKit Go.Deep
section
variable {α : Type} (K : Kind α) {H : Type} {enc : TypeId × Value → H} {P : Program} {w : World} {base : Nat} {sp : Nat → Bool}
theorem open_kindC {t : TypeId} {v : Value} {d : DataW H} {ps : List MemPlace} (good : α → Prop) (ht : P.underlying t = some (.slice K.e)) (hC : P.cellsOf K.e = K.size)
    (hread : ∀ (n : Nat) (cs : List Value) (y : DataW H × List MemPlace), cs.length = K.size → DataW.trod enc P w base sp true n K.e cs = some y → ∃ x, cs = K.elem x ∧ good x)
    {r : Reach} {b0 : Nat} (hval : Value.okWide P w r b0 t v) (h : DataW.Trod enc P w base sp true t v d ps) :
    ∃ (a : Option Addr) (cap : Nat) (l : List α), v = .slice a l.length cap ∧ (a = none → cap = 0) ∧ l.length ≤ maxLen ∧ CellsAt a (K.cells l) w ∧ (∀ x ∈ l, good x) ∧ l.length ≤ cap := by
  obtain ⟨fuel, h⟩ := h
  have hcells : v.cells.toList = [v] := by
    obtain ⟨a, n, c, rfl⟩ := okWide_slice ht hval
    rfl
  rw [hcells] at h
  rcases open_slice ht h with ⟨h0, _⟩ | ⟨a, len, cap, m, n, D, Pl, hcs, _, hl, hm, hmm, _, hi⟩
  · simp only [List.cons.injEq, and_true] at h0
    exact ⟨none, 0, [], h0, fun _ => rfl, Nat.zero_le _, rfl, by simp, Nat.le_refl _⟩
  · simp only [List.cons.injEq, and_true] at hcs
    have hlm : len ≤ m := by rw [hmm]; split <;> omega
    have each : ∀ i, i < len → ∃ x, good x ∧ ∀ (j : Nat) (c : Value), (K.elem x)[j]? = some c → w.cell? (a.add (i * K.size + j)) = some c := by
      intro i hil
      obtain ⟨cs', hc, ht'⟩ := hi i (by omega)
      rw [hC] at hc
      obtain ⟨_, hcl, hat⟩ := World.cells?_some hc
      obtain ⟨x, rfl, hg⟩ := hread n cs' _ hcl (by rw [← hC] at *; exact ht')
      refine ⟨x, hg, fun j c hj => ?_⟩
      have hjl : j < K.size := by rw [← K.elen x]; exact (List.getElem?_eq_some_iff.1 hj).1
      rw [← Go.Deep.add_add, hat j hjl, hj]
    obtain ⟨l, hlen, hl2⟩ := list_of len each
    refine ⟨some a, cap, l, by rw [hlen]; exact hcs, by simp, by omega, ?_, ?_, by omega⟩
    · intro j c hj
      obtain ⟨i, k, x, rfl, hk, hx⟩ := K.cells_at hj
      exact (hl2 i x hk).2 k c hx
    · intro x hx
      obtain ⟨i, hi, e⟩ := List.mem_iff_getElem.1 hx
      exact (hl2 i x (by rw [List.getElem?_eq_getElem hi, e])).1
end
end Go.Proofs.Ytmmclabkkigiaaa

namespace Go.Proofs.Ytmmclabkkigiaaa
open Go.ChangeShapes Go.WideShapes Go.ChangeAt Go.RowKit Go.Deep
def good_str (_ : ByteArray) : Prop := True
theorem leaf_str (cs0 : List Value) (e0 : WithText.LeavesOk [.string] cs0) : ∃ x, cs0 = kStr.elem x ∧ good_str x := by
  obtain ⟨_, cs1, rfl, ⟨z0, rfl, _⟩, e1⟩ := WithText.leaves_cons e0
  obtain rfl := WithText.leaves_nil e1
  exact ⟨z0, rfl, trivial⟩
theorem read_str {H : Type} {enc : TypeId × Value → H} {w : World} {base : Nat} {sp : Nat → Bool} (n : Nat) (cs : List Value) (y : DataW H × List MemPlace) (_ : cs.length = kStr.size) (h : DataW.trod enc Try.prog w base sp true n kStr.e cs = some y) :
    ∃ x, cs = kStr.elem x ∧ good_str x := leaf_str cs (WithText.leaves_ok (P := Try.prog) 6 kStr.e [.string] _ _ _ (by kernel_rfl) h)
theorem leaf_Geo (cs0 : List Value) (e0 : LeavesOk [.int .i64, .int .i64, .int .i64] cs0) : ∃ x, cs0 = kGeo.elem x ∧ good_Geo x := by
  obtain ⟨_, cs1, rfl, ⟨z0, rfl, b0⟩, e1⟩ := leaves_cons e0
  obtain ⟨_, cs2, rfl, ⟨z1, rfl, b1⟩, e2⟩ := leaves_cons e1
  obtain ⟨_, cs3, rfl, ⟨z2, rfl, b2⟩, e3⟩ := leaves_cons e2
  obtain rfl := leaves_nil e3
  simp [Lit.wf, IntKind.min, IntKind.max, IntKind.signed, IntKind.bits] at b0 b1 b2
  refine ⟨⟨z0, z1, z2⟩, rfl, ?_⟩
  simp only [good_Geo]
  omega
end Go.Proofs.Ytmmclabkkigiaaa
