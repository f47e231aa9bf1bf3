/- Texts, one behind the other: A7b, F7c, A7d, F06o, F7g, A7e, A3a, A3b, A3c, A3d, A3e, A0t, A5e, F5A, A5f, F6i. -/
import Derived.Test.YtmmclabkkigiaaaGreatDoorQEN3
set_option linter.unusedVariables false
set_option linter.unusedSimpArgs false
set_option linter.unusedVariables false
set_option maxRecDepth 20000
namespace Go.Proofs.YtmmclabkkigiaaaGreatDoor
open Go Go.RowKit
set_option linter.unusedSimpArgs false
set_option linter.unusedVariables false

def pfree_M (img : List Int) (l : List (Int × Int)) (at_ : Int) (many : Int) (pm : Int) : Option (Int) :=
 (mcount_M img l at_ many).bind fun r7 =>
need (-9223372036854775808 ≤ (pm - r7) ∧ (pm - r7) ≤ 9223372036854775807) <|
some (pm - r7)

theorem pfree_walk {img : List Int} {l : List (Int × Int)} {at_ : Int} {many : Int} {pm : Int} {mb vb : Nat} {r : Int} (B : Nat) (w : World) (hmb : w.heap[mb]? = some (.cells [(.pointer (some ⟨vb, 0, none⟩)), (.int .i64 at_), (.int .i64 many)].toArray 213 (0, 0))) (hv : ViewAt (ptr vb) img l w) (hm : pfree_M img l at_ many pm = some r) : Spec Tryz.prog 138 #[(.agg #[(.pointer (some ⟨mb, 0, none⟩)), (.int .i64 pm)])] B w [] (fun v H' => v = .int .i64 r ∧ H' = []) := by
 refine spec_Q Tryz.func138 rfl fun hs => ?_
 unfold pfree_M at hm
 refine W.sr fun K1 hK1 => ?_
 refine zN [(.pointer (some ⟨mb, 0, none⟩)), (.int .i64 pm)] 206 hs fun b4 w2 hs3 => ?_
 refine zE 1 (hK1 _ _ ?_)
 refine W.seq fun K5 hK5 => ?_
 have hs6 := hs3.drew
 refine W.regionD [(0, 0), (1, 1), (0, 0), (4, 4), (8, 8), (18, 18), (63, 32)] (fun w_ => St B w [] w_ [blk b4 (.cells [(.pointer (some ⟨mb, 0, none⟩)), (.int .i64 pm)].toArray 206 (0, 0))]) (by kernel_rfl) hs6 ?_
 refine any_val (v := (.pointer (some ⟨b4, 1, none⟩))) (v' := (.pointer (some ⟨b4, 1, none⟩))) 0 (by kernel_rfl) (fun _ => by kernel_rfl) rfl hs6 ?_
 refine any_R 1 (by kernel_rfl) (fun _ hS_ => runs_load (ad := ⟨b4, 1, none⟩) (v := (.int .i64 pm)) (by kernel_rfl) (hS_.cellAt 0 rfl rfl)) hs6 ?_
 refine any_val (v := (.pointer (some ⟨b4, 0, none⟩))) (v' := (.pointer (some ⟨b4, 0, none⟩))) 2 (by kernel_rfl) (fun _ => by kernel_rfl) rfl hs6 ?_
 refine any_R 3 (by kernel_rfl) (fun _ hS_ => runs_load (ad := ⟨b4, 0, none⟩) (v := (.pointer (some ⟨mb, 0, none⟩))) (by kernel_rfl) (hS_.cellAt 0 rfl rfl)) hs6 ?_
 refine any_step 4 (by kernel_rfl) (by kernel_rfl) ?_
 obtain ⟨r7, h8, hm⟩ := bind_some hm
 refine zC00 hs6 (mcount_walk (hmb := (hs6.old hmb)) (hv := (viewAt_old hs6 hv)) (hm := h8) B _) fun w9 hs11 => ?_
 refine ops_done (by kernel_rfl) ⟨hs11, ?_⟩
 obtain ⟨h12, hm⟩ := need_some hm
 refine any_val (v := .int .i64 (IntKind.i64.wrap (pm - r7))) (v' := .int .i64 (pm - r7)) 5 (by kernel_rfl) (fun _ => by kernel_rfl) (congrArg (Value.int .i64) (wrap_i64 h12.1 h12.2)) hs11 ?_
 refine any_val (v := (.int .i64 (pm - r7))) (v' := (.int .i64 (pm - r7))) 6 (by kernel_rfl) (fun _ => by kernel_rfl) rfl hs11 ?_
 refine any_done (by kernel_rfl) ?_
 refine hK5 _ _ ?_
 refine W.ret ?_
 obtain rfl := some_inj hm
 have hs13 := St.tk0 hs11
 refine ret_of (.int .i64 (pm - r7)) (by kernel_rfl) ⟨_, ⟨rfl, rfl⟩, hs13⟩

def pgive_J1 (img : List Int) (l : List (Int × Int)) (at_ : Int) (many : Int) (n_ : Int) (p6 : Bool) : Option (Int × List (Int × Int)) :=
 if p6 = true then (some (1, l)) else ((mget_M img l at_ many n_).bind fun r14 =>
if r14 = true then ((mset_M img l at_ many n_ false).bind fun r21 =>
some (r21.1, r21.2)) else (some (3, l)))

def pgive_M (img : List Int) (l : List (Int × Int)) (at_ : Int) (many : Int) (pm : Int) (n_ : Int) : Option (Int × List (Int × Int)) :=
 if n_ < 1 then (pgive_J1 img l at_ many n_ (decide (n_ < 1))) else (pgive_J1 img l at_ many n_ (decide (n_ ≥ pm)))

theorem pgive_walk {img : List Int} {l : List (Int × Int)} {at_ : Int} {many : Int} {pm : Int} {n_ : Int} {mb vb : Nat} {r : Int × List (Int × Int)} (B : Nat) (w : World) (hm : pgive_M img l at_ many pm n_ = some r) : Spec Tryz.prog 140 #[(.agg #[(.pointer (some ⟨mb, 0, none⟩)), (.int .i64 pm)]), (.int .i64 n_)] B w [blk mb (.cells [(.pointer (some ⟨vb, 0, none⟩)), (.int .i64 at_), (.int .i64 many)].toArray 213 (0, 0)), viewA (ptr vb) img l] (fun v H' => v = .int .i64 r.1 ∧ H' = [blk mb (.cells [(.pointer (some ⟨vb, 0, none⟩)), (.int .i64 at_), (.int .i64 many)].toArray 213 (0, 0)), viewA (ptr vb) img r.2]) := by
 refine spec_W Tryz.func140 rfl fun l0 hs => ?_
 unfold pgive_M at hm
 refine W.sr fun K1 hK1 => ?_
 refine zN [(.pointer (some ⟨mb, 0, none⟩)), (.int .i64 pm)] 206 hs fun b4 w2 hs3 => ?_
 refine zE 1 (hK1 _ _ ?_)
 refine W.seq fun K5 hK5 => ?_
 refine W.block ?_
 refine W.seq_join (fun s_ w_ => ∃ (p6 : Bool), (∃ us, s_ = slots 22 [(1, (.int .i64 n_)), (2, (.pointer (some ⟨b4, 0, none⟩))), (5, (.bool p6))] us) ∧ St B w l0 w_ [viewA (ptr vb) img l, blk mb (.cells [(.pointer (some ⟨vb, 0, none⟩)), (.int .i64 at_), (.int .i64 many)].toArray 213 (0, 0)), blk b4 (.cells [(.pointer (some ⟨mb, 0, none⟩)), (.int .i64 pm)].toArray 206 (0, 0))] ∧ pgive_J1 img l at_ many n_ p6 = some r) ?_ ?_
 ·
  rintro _ w7 ⟨p6, ⟨us, rfl⟩, hs8, hm⟩
  unfold pgive_J1 at hm
  refine W.cond p6 (by kernel_rfl) (fun h9 => ?_) (fun h9 => ?_)
  ·
   have h9p : p6 = true := h9
   replace hm := ite_yes hm h9p
   refine W.sr fun K10 hK10 => ?_
   refine zE 1 (hK10 _ _ ?_)
   refine W.ret (ret_block (ret_seq ?_))
   obtain rfl := some_inj hm
   have hs11 := St.f1 hs8
   have hs12 := St.tk2 hs11
   refine ret_of (.int .i64 1) (by kernel_rfl) ⟨_, ⟨rfl, rfl⟩, hs12⟩
  ·
   have h9p : ¬ (p6 = true) := ne_true_of_eq_false h9
   replace hm := ite_no hm h9p
   refine W.sr fun K13 hK13 => ?_
   refine zR 1 ?_
   refine zL ⟨b4, 0, none⟩ (.pointer (some ⟨mb, 0, none⟩)) (hs8.cellAt 2 rfl rfl) ?_
   refine zR 1 ?_
   obtain ⟨r14, h15, hm⟩ := bind_some hm
   refine zC00 hs8 (mget_walk (hmb := (hs8.heapAt 1 rfl)) (hv := (hs8.entAt 0 rfl viewA_at)) (hm := h15) B _) fun w16 hs18 => ?_
   refine zE 2 (hK13 _ _ ?_)
   refine W.cond (!r14) (by kernel_rfl) (fun h19 => ?_) (fun h19 => ?_)
   rotate_left
   ·
    have h19p : r14 = true := (bnot_false h19)
    replace hm := ite_yes hm h19p
    refine W.skip ?_
    refine normal_block ?_
    refine hK5 _ _ ?_
    refine W.sr fun K20 hK20 => ?_
    refine zR 1 ?_
    refine zL ⟨b4, 0, none⟩ (.pointer (some ⟨mb, 0, none⟩)) (hs18.cellAt 2 rfl rfl) ?_
    refine zR 1 ?_
    obtain ⟨r21, h22, hm⟩ := bind_some hm
    have hs23 := St.f1 hs18
    refine zC22 hs23 (mset_walk (hm := h22) B _) fun w24 hs26 => ?_
    refine zE 1 (hK20 _ _ ?_)
    refine W.ret ?_
    obtain rfl := some_inj hm
    have hs27 := St.f1 hs26
    have hs28 := St.f1 hs27
    have hs29 := St.tk2 hs28
    refine ret_of (.int .i64 r21.1) (by kernel_rfl) ⟨_, ⟨rfl, rfl⟩, hs29⟩
   ·
    have h19p : ¬ (r14 = true) := ne_true_of_eq_false (bnot_true h19)
    replace hm := ite_no hm h19p
    refine W.sr fun K30 hK30 => ?_
    refine zE 1 (hK30 _ _ ?_)
    refine W.ret (ret_block (ret_seq ?_))
    obtain rfl := some_inj hm
    have hs31 := St.f1 hs18
    have hs32 := St.tk2 hs31
    refine ret_of (.int .i64 3) (by kernel_rfl) ⟨_, ⟨rfl, rfl⟩, hs32⟩
 ·
  refine W.sr fun K33 hK33 => ?_
  refine zE 3 (hK33 _ _ ?_)
  refine W.cond (decide (n_ < 1)) (by kernel_rfl) (fun h34 => ?_) (fun h34 => ?_)
  ·
   obtain ⟨h34p, hm⟩ := iY hm h34
   refine W.skip ?_
   have hs35 := St.f1 hs3
   have hs36 := St.f2 hs35
   exact ⟨(decide (n_ < 1)), slots_intro _ (by kernel_rfl), hs36, hm⟩
  ·
   obtain ⟨h34p, hm⟩ := iN hm h34
   refine W.region ?_
   refine zR 2 ?_
   refine zL ⟨b4, 1, none⟩ (.int .i64 pm) (hs3.cellAt 0 rfl rfl) ?_
   refine zE 2 ?_
   have hs37 := St.f1 hs3
   have hs38 := St.f2 hs37
   exact ⟨(decide (n_ ≥ pm)), slots_intro _ (by kernel_rfl), hs38, hm⟩

def aclear_B0 (img : List Int) (ns : List Int) (k6 : ((List (Int × Int)) × Int) → Option (Int × List (Int × Int))) (l4 : List (Int × Int)) (p5 : Int) : Option (Int × List (Int × Int)) :=
 if p5 < (ns.length : Int) then (need (0 ≤ p5 ∧ p5 < (ns.length : Int)) <|
(some (vput img l4 (ns.getD p5.toNat 0) 0)).bind fun r21 =>
if r21.1 = 0 then (need (-9223372036854775808 ≤ (p5 + 1) ∧ (p5 + 1) ≤ 9223372036854775807) <|
k6 (r21.2, (p5 + 1))) else (some (r21.1, r21.2))) else (some (0, l4))

def aclear_M (img : List Int) (l : List (Int × Int)) (ns : List Int) : Option (Int × List (Int × Int)) :=
 iter (fun k_ s_ => aclear_B0 img ns k_ s_.1 s_.2) FUEL (l, 0)

theorem aclear_walk {img : List Int} {l : List (Int × Int)} {gw : Int} {gi : Int} {gb : Int} {ns : List Int} {ab ib bb vb : Nat} {wa : Option Addr} {wc : Nat} {r : Int × List (Int × Int)} (B : Nat) (w : World) (hm : aclear_M img l ns = some r) : Spec Tryz.prog 154 #[(.pointer (some ⟨ab, 0, none⟩)), (.slice wa ns.length wc)] B w [blk ab (.cells [(.pointer (some ⟨vb, 0, none⟩)), (.int .i64 gw), (.int .i64 gi), (.int .i64 gb), (.pointer (some ⟨ib, 0, none⟩)), (.int .i64 gi), (.pointer (some ⟨bb, 0, none⟩)), (.int .i64 gb)].toArray 208 (0, 0)), kInt.row wa wc ns, viewA (ptr vb) img l] (fun v H' => v = .int .i64 r.1 ∧ H' = [blk ab (.cells [(.pointer (some ⟨vb, 0, none⟩)), (.int .i64 gw), (.int .i64 gi), (.int .i64 gb), (.pointer (some ⟨ib, 0, none⟩)), (.int .i64 gi), (.pointer (some ⟨bb, 0, none⟩)), (.int .i64 gb)].toArray 208 (0, 0)), kInt.row wa wc ns, viewA (ptr vb) img r.2]) := by
 refine spec_W Tryz.func154 rfl fun l0 hs => ?_
 unfold aclear_M at hm
 refine W.sr fun K1 hK1 => ?_
 refine zE 1 (hK1 _ _ ?_)
 refine W.seq fun K2 hK2 => ?_
 refine W.sr fun K3 hK3 => ?_
 refine zE 3 (hK3 _ _ ?_)
 refine W.block ?_
 have hs10 := St.f1 hs
 have hs11 := St.f1 hs10
 have hs12 := St.f2 hs11
 refine W.loop_iter (G := (List (Int × Int)) × Int) (σ := (List (Int × Int)) × Int) (fun | (l4, p5) => (l4, p5)) (fun | (l4, p5), s_, w_ => (∃ us, s_ = slots 24 [(0, (.pointer (some ⟨ab, 0, none⟩))), (8, (.slice wa ns.length wc)), (9, (.int .i64 (ns.length : Int))), (10, (.int .i64 p5))] us) ∧ St B w l0 w_ [viewA (ptr vb) img l4, blk ab (.cells [(.pointer (some ⟨vb, 0, none⟩)), (.int .i64 gw), (.int .i64 gi), (.int .i64 gb), (.pointer (some ⟨ib, 0, none⟩)), (.int .i64 gi), (.pointer (some ⟨bb, 0, none⟩)), (.int .i64 gb)].toArray 208 (0, 0)), kInt.row wa wc ns]) (l, 0) ⟨slots_intro _ (by kernel_rfl), hs12⟩ hm ?_
 rintro k6 ih7 ⟨l4, p5⟩ _ w8 ⟨⟨us, rfl⟩, hs9⟩ hm
 replace hm : aclear_B0 img ns k6 l4 p5 = some r := hm
 unfold aclear_B0 at hm
 refine W.sr fun K13 hK13 => ?_
 refine zE 1 (hK13 _ _ ?_)
 refine W.seq fun K14 hK14 => ?_
 refine W.cond (decide (p5 < (ns.length : Int))) (by kernel_rfl) (fun h15 => ?_) (fun h15 => ?_)
 ·
  obtain ⟨h15p, hm⟩ := iY hm h15
  refine W.skip ?_
  refine hK14 _ _ ?_
  refine W.seq fun K16 hK16 => ?_
  refine W.block ?_
  refine W.sr fun K17 hK17 => ?_
  obtain ⟨h19, hm⟩ := need_some hm
  have hk18 := lt_toNat h19
  refine ops_R (runs_index (a := wa) (n := ns.length) (z := p5) (size := 1) p5.toNat (nat_of h19.1) hk18 (kInt.addr (St.kcells kInt hs9 2 rfl) hk18) (by kernel_rfl)) ?_
  refine zL ((adr wa (p5.toNat * 1)).add 0) (.int .i64 (ns.getD p5.toNat 0)) (kInt.at (St.kcells kInt hs9 2 rfl) hk18 0 0 rfl) ?_
  refine zE 1 (hK17 _ _ ?_)
  refine W.sr fun K20 hK20 => ?_
  refine zR 3 ?_
  refine zL ⟨ab, 0, none⟩ (.pointer (some ⟨vb, 0, none⟩)) (hs9.cellAt 1 rfl rfl) ?_
  refine zR 1 ?_
  obtain ⟨r21, h22, hm⟩ := bind_some hm
  replace h22 := some_inj h22
  refine ops_call1 hs9 (by kernel_rfl) (put_spec (p := (.pointer (some ⟨vb, 0, none⟩))) (img := img) (l := l4) (at_ := (ns.getD p5.toNat 0)) (x_ := 0) B _) ?_
  rintro _ _ w25 ⟨hv23, hH24⟩ hs26
  rw [h22] at hv23
  try rw [h22] at hH24
  subst hv23 hH24
  have hs27 := St.ap1 hs26
  refine zE 1 (hK20 _ _ ?_)
  refine W.sr fun K28 hK28 => ?_
  refine zE 2 (hK28 _ _ ?_)
  refine W.cond (!decide (r21.1 = 0)) (by kernel_rfl) (fun h29 => ?_) (fun h29 => ?_)
  rotate_left
  ·
   have h29p : r21.1 = 0 := of_decide_eq_true (bnot_false h29)
   replace hm := ite_yes hm h29p
   refine W.skip ?_
   refine normal_block ?_
   refine hK16 _ _ ?_
   refine W.region ?_
   obtain ⟨h30, hm⟩ := need_some hm
   refine zI _ (wrap_i64 h30.1 h30.2) ?_
   refine zE 1 ?_
   refine loopAt_next ?_
   exact ih7 (r21.2, (p5 + 1)) _ _ ⟨slots_intro _ (by kernel_rfl), hs27⟩ hm
  ·
   have h29p : ¬ (r21.1 = 0) := of_decide_eq_false (bnot_true h29)
   replace hm := ite_no hm h29p
   refine W.sr fun K31 hK31 => ?_
   refine zE 2 (hK31 _ _ ?_)
   refine W.ret (ret_block (ret_seq (ret_seq (ret_block (ret_seq ?_)))))
   obtain rfl := some_inj hm
   have hs32 := St.f2 hs27
   have hs33 := St.f2 hs32
   refine ret_of (.int .i64 r21.1) (by kernel_rfl) ⟨_, ⟨rfl, rfl⟩, hs33⟩
 ·
  obtain ⟨h15p, hm⟩ := iN hm h15
  refine W.exit (exit_seq (exit_seq (exit_here ?_)))
  refine hK2 _ _ ?_
  refine W.sr fun K34 hK34 => ?_
  refine zE 1 (hK34 _ _ ?_)
  refine W.ret ?_
  obtain rfl := some_inj hm
  have hs35 := St.f2 hs9
  have hs36 := St.f2 hs35
  refine ret_of (.int .i64 0) (by kernel_rfl) ⟨_, ⟨rfl, rfl⟩, hs36⟩

end Go.Proofs.YtmmclabkkigiaaaGreatDoor

set_option maxRecDepth 20000
namespace Go.Proofs.YtmmclabkkigiaaaGreatDoor
open Go Go.RowKit
set_option linter.unusedSimpArgs false
set_option linter.unusedVariables false

theorem own_spec {ab cb vb ib bb : Nat} {gw gi gb n_ : Int} (B : Nat) (w : World) (hpl : -1000000 ≤ (placeOf 9 gw gi gb n_) ∧ (placeOf 9 gw gi gb n_) ≤ 1000000) (hcb : w.heap[cb]? = some (.cells [(.pointer (some ⟨ab, 0, none⟩))].toArray 192 (0, 0))) (hab : w.heap[ab]? = some (.cells [(.pointer (some ⟨vb, 0, none⟩)), (.int .i64 gw), (.int .i64 gi), (.int .i64 gb), (.pointer (some ⟨ib, 0, none⟩)), (.int .i64 gi), (.pointer (some ⟨bb, 0, none⟩)), (.int .i64 gb)].toArray 208 (0, 0))) : Spec Tryz.prog 147 #[(.int .i64 n_), (.pointer (some ⟨cb, 0, none⟩))] B w [] (fun v H' => ∃ a' c', v = .slice a' 8 c' ∧ H' = [kInt.row a' c' [((placeOf 9 gw gi gb n_) + 0), ((placeOf 9 gw gi gb n_) + 1), ((placeOf 9 gw gi gb n_) + 2), ((placeOf 9 gw gi gb n_) + 3), ((placeOf 9 gw gi gb n_) + 4), ((placeOf 9 gw gi gb n_) + 5), ((placeOf 9 gw gi gb n_) + 6), ((placeOf 9 gw gi gb n_) + 7)]]) := by
 refine spec_Q Tryz.func147 rfl fun hs => ?_
 refine W.sr fun K1 hK1 => ?_
 refine zE 1 (hK1 _ _ ?_)
 refine W.sr fun K2 hK2 => ?_
 refine zL ⟨cb, 0, none⟩ (.pointer (some ⟨ab, 0, none⟩)) (cell_of_blk (hs.old hcb) rfl) ?_
 refine zR 2 ?_
 refine ops_R (runs_loadAgg (ad := ⟨ab, 1, none⟩) (cs := [(.int .i64 gw), (.int .i64 gi), (.int .i64 gb)]) (by kernel_rfl) (cells_sub (hs.old hab) rfl)) ?_
 refine zR 1 ?_
 refine zC00 hs (blockat_spec (gw := gw) (gi := gi) (gb := gb) (n_ := n_) B _) fun w3 hs5 => ?_
 refine zE 1 (hK2 _ _ ?_)
 refine W.seq fun K6 hK6 => ?_
 refine W.sr fun K7 hK7 => ?_
 refine zE 1 (hK7 _ _ ?_)
 refine W.block ?_
 refine W.loop_start ?_
 refine loopAt_round ?_
 refine W.sr fun K8 hK8 => ?_
 refine zE 1 (hK8 _ _ ?_)
 refine W.seq fun K9 hK9 => ?_
 refine W.cond_true true (by kernel_rfl) rfl ?_
 refine W.skip ?_
 refine hK9 _ _ ?_
 refine W.seq fun K10 hK10 => ?_
 refine W.block ?_
 refine W.sr fun K11 hK11 => ?_
 refine zE 2 (hK11 _ _ ?_)
 refine W.region ?_
 refine zR 3 ?_
 have h12 : -9223372036854775808 ≤ ((placeOf 9 gw gi gb n_) + 0) ∧ ((placeOf 9 gw gi gb n_) + 0) ≤ 9223372036854775807 := by omega
 refine zI _ (wrap_i64 h12.1 h12.2) ?_
 refine ops_new (fun b => .slice (some ⟨b, 0, none⟩) 1 1) (.cells [(.int .i64 ((placeOf 9 gw gi gb n_) + 0))].toArray 3 (0, 0)) hs5 (by kernel_rfl) (fun b15 w13 hs14 => ?_)
 have hs16 := St.knil kInt hs14
 refine ops_appendK kInt (bytes := 8) (a' := (some ⟨b15, 0, none⟩)) (c' := 1) (l := []) (m := [((placeOf 9 gw gi gb n_) + 0)]) hs16 (by kernel_rfl) (by simp) (cells_blk (hs16.heapAt 1 rfl)) (by (unfold maxLen; try simp) <;> (simp only [List.length_cons, List.length_nil]; omega)) (by (try simp) <;> (simp only [List.length_cons, List.length_nil]; omega)) (fun a17 c18 w19 hs20 => ?_)
 have hs21 : St B w [] w19 [kInt.row a17 c18 ([((placeOf 9 gw gi gb n_) + 0)]), blk b15 (.cells [(.int .i64 ((placeOf 9 gw gi gb n_) + 0))].toArray 3 (0, 0))] := hs20
 refine zE 1 ?_
 refine normal_block ?_
 refine hK10 _ _ ?_
 refine W.region ?_
 refine zE 2 ?_
 refine loopAt_next ?_
 refine loopAt_round ?_
 refine W.sr fun K22 hK22 => ?_
 refine zE 1 (hK22 _ _ ?_)
 refine W.seq fun K23 hK23 => ?_
 refine W.cond_true true (by kernel_rfl) rfl ?_
 refine W.skip ?_
 refine hK23 _ _ ?_
 refine W.seq fun K24 hK24 => ?_
 refine W.block ?_
 refine W.sr fun K25 hK25 => ?_
 refine zE 2 (hK25 _ _ ?_)
 refine W.region ?_
 refine zR 3 ?_
 have h26 : -9223372036854775808 ≤ ((placeOf 9 gw gi gb n_) + 1) ∧ ((placeOf 9 gw gi gb n_) + 1) ≤ 9223372036854775807 := by omega
 refine zI _ (wrap_i64 h26.1 h26.2) ?_
 refine ops_new (fun b => .slice (some ⟨b, 0, none⟩) 1 1) (.cells [(.int .i64 ((placeOf 9 gw gi gb n_) + 1))].toArray 3 (0, 0)) hs21 (by kernel_rfl) (fun b29 w27 hs28 => ?_)
 have hs30 := St.f1 hs28
 refine ops_appendK kInt (bytes := 8) (a' := (some ⟨b29, 0, none⟩)) (c' := 1) (l := [((placeOf 9 gw gi gb n_) + 0)]) (m := [((placeOf 9 gw gi gb n_) + 1)]) hs30 (by kernel_rfl) (by simp) (cells_blk (hs30.heapAt 1 rfl)) (by (unfold maxLen; try simp) <;> (simp only [List.length_cons, List.length_nil]; omega)) (by (try simp) <;> (simp only [List.length_cons, List.length_nil]; omega)) (fun a31 c32 w33 hs34 => ?_)
 have hs35 : St B w [] w33 [kInt.row a31 c32 ([((placeOf 9 gw gi gb n_) + 0), ((placeOf 9 gw gi gb n_) + 1)]), blk b29 (.cells [(.int .i64 ((placeOf 9 gw gi gb n_) + 1))].toArray 3 (0, 0)), blk b15 (.cells [(.int .i64 ((placeOf 9 gw gi gb n_) + 0))].toArray 3 (0, 0))] := hs34
 refine zE 1 ?_
 refine normal_block ?_
 refine hK24 _ _ ?_
 refine W.region ?_
 refine zE 2 ?_
 refine loopAt_next ?_
 refine loopAt_round ?_
 refine W.sr fun K36 hK36 => ?_
 refine zE 1 (hK36 _ _ ?_)
 refine W.seq fun K37 hK37 => ?_
 refine W.cond_true true (by kernel_rfl) rfl ?_
 refine W.skip ?_
 refine hK37 _ _ ?_
 refine W.seq fun K38 hK38 => ?_
 refine W.block ?_
 refine W.sr fun K39 hK39 => ?_
 refine zE 2 (hK39 _ _ ?_)
 refine W.region ?_
 refine zR 3 ?_
 have h40 : -9223372036854775808 ≤ ((placeOf 9 gw gi gb n_) + 2) ∧ ((placeOf 9 gw gi gb n_) + 2) ≤ 9223372036854775807 := by omega
 refine zI _ (wrap_i64 h40.1 h40.2) ?_
 refine ops_new (fun b => .slice (some ⟨b, 0, none⟩) 1 1) (.cells [(.int .i64 ((placeOf 9 gw gi gb n_) + 2))].toArray 3 (0, 0)) hs35 (by kernel_rfl) (fun b43 w41 hs42 => ?_)
 have hs44 := St.f1 hs42
 refine ops_appendK kInt (bytes := 8) (a' := (some ⟨b43, 0, none⟩)) (c' := 1) (l := [((placeOf 9 gw gi gb n_) + 0), ((placeOf 9 gw gi gb n_) + 1)]) (m := [((placeOf 9 gw gi gb n_) + 2)]) hs44 (by kernel_rfl) (by simp) (cells_blk (hs44.heapAt 1 rfl)) (by (unfold maxLen; try simp) <;> (simp only [List.length_cons, List.length_nil]; omega)) (by (try simp) <;> (simp only [List.length_cons, List.length_nil]; omega)) (fun a45 c46 w47 hs48 => ?_)
 have hs49 : St B w [] w47 [kInt.row a45 c46 ([((placeOf 9 gw gi gb n_) + 0), ((placeOf 9 gw gi gb n_) + 1), ((placeOf 9 gw gi gb n_) + 2)]), blk b43 (.cells [(.int .i64 ((placeOf 9 gw gi gb n_) + 2))].toArray 3 (0, 0)), blk b29 (.cells [(.int .i64 ((placeOf 9 gw gi gb n_) + 1))].toArray 3 (0, 0)), blk b15 (.cells [(.int .i64 ((placeOf 9 gw gi gb n_) + 0))].toArray 3 (0, 0))] := hs48
 refine zE 1 ?_
 refine normal_block ?_
 refine hK38 _ _ ?_
 refine W.region ?_
 refine zE 2 ?_
 refine loopAt_next ?_
 refine loopAt_round ?_
 refine W.sr fun K50 hK50 => ?_
 refine zE 1 (hK50 _ _ ?_)
 refine W.seq fun K51 hK51 => ?_
 refine W.cond_true true (by kernel_rfl) rfl ?_
 refine W.skip ?_
 refine hK51 _ _ ?_
 refine W.seq fun K52 hK52 => ?_
 refine W.block ?_
 refine W.sr fun K53 hK53 => ?_
 refine zE 2 (hK53 _ _ ?_)
 refine W.region ?_
 refine zR 3 ?_
 have h54 : -9223372036854775808 ≤ ((placeOf 9 gw gi gb n_) + 3) ∧ ((placeOf 9 gw gi gb n_) + 3) ≤ 9223372036854775807 := by omega
 refine zI _ (wrap_i64 h54.1 h54.2) ?_
 refine ops_new (fun b => .slice (some ⟨b, 0, none⟩) 1 1) (.cells [(.int .i64 ((placeOf 9 gw gi gb n_) + 3))].toArray 3 (0, 0)) hs49 (by kernel_rfl) (fun b57 w55 hs56 => ?_)
 have hs58 := St.f1 hs56
 refine ops_appendK kInt (bytes := 8) (a' := (some ⟨b57, 0, none⟩)) (c' := 1) (l := [((placeOf 9 gw gi gb n_) + 0), ((placeOf 9 gw gi gb n_) + 1), ((placeOf 9 gw gi gb n_) + 2)]) (m := [((placeOf 9 gw gi gb n_) + 3)]) hs58 (by kernel_rfl) (by simp) (cells_blk (hs58.heapAt 1 rfl)) (by (unfold maxLen; try simp) <;> (simp only [List.length_cons, List.length_nil]; omega)) (by (try simp) <;> (simp only [List.length_cons, List.length_nil]; omega)) (fun a59 c60 w61 hs62 => ?_)
 have hs63 : St B w [] w61 [kInt.row a59 c60 ([((placeOf 9 gw gi gb n_) + 0), ((placeOf 9 gw gi gb n_) + 1), ((placeOf 9 gw gi gb n_) + 2), ((placeOf 9 gw gi gb n_) + 3)]), blk b57 (.cells [(.int .i64 ((placeOf 9 gw gi gb n_) + 3))].toArray 3 (0, 0)), blk b43 (.cells [(.int .i64 ((placeOf 9 gw gi gb n_) + 2))].toArray 3 (0, 0)), blk b29 (.cells [(.int .i64 ((placeOf 9 gw gi gb n_) + 1))].toArray 3 (0, 0)), blk b15 (.cells [(.int .i64 ((placeOf 9 gw gi gb n_) + 0))].toArray 3 (0, 0))] := hs62
 refine zE 1 ?_
 refine normal_block ?_
 refine hK52 _ _ ?_
 refine W.region ?_
 refine zE 2 ?_
 refine loopAt_next ?_
 refine loopAt_round ?_
 refine W.sr fun K64 hK64 => ?_
 refine zE 1 (hK64 _ _ ?_)
 refine W.seq fun K65 hK65 => ?_
 refine W.cond_true true (by kernel_rfl) rfl ?_
 refine W.skip ?_
 refine hK65 _ _ ?_
 refine W.seq fun K66 hK66 => ?_
 refine W.block ?_
 refine W.sr fun K67 hK67 => ?_
 refine zE 2 (hK67 _ _ ?_)
 refine W.region ?_
 refine zR 3 ?_
 have h68 : -9223372036854775808 ≤ ((placeOf 9 gw gi gb n_) + 4) ∧ ((placeOf 9 gw gi gb n_) + 4) ≤ 9223372036854775807 := by omega
 refine zI _ (wrap_i64 h68.1 h68.2) ?_
 refine ops_new (fun b => .slice (some ⟨b, 0, none⟩) 1 1) (.cells [(.int .i64 ((placeOf 9 gw gi gb n_) + 4))].toArray 3 (0, 0)) hs63 (by kernel_rfl) (fun b71 w69 hs70 => ?_)
 have hs72 := St.f1 hs70
 refine ops_appendK kInt (bytes := 8) (a' := (some ⟨b71, 0, none⟩)) (c' := 1) (l := [((placeOf 9 gw gi gb n_) + 0), ((placeOf 9 gw gi gb n_) + 1), ((placeOf 9 gw gi gb n_) + 2), ((placeOf 9 gw gi gb n_) + 3)]) (m := [((placeOf 9 gw gi gb n_) + 4)]) hs72 (by kernel_rfl) (by simp) (cells_blk (hs72.heapAt 1 rfl)) (by (unfold maxLen; try simp) <;> (simp only [List.length_cons, List.length_nil]; omega)) (by (try simp) <;> (simp only [List.length_cons, List.length_nil]; omega)) (fun a73 c74 w75 hs76 => ?_)
 have hs77 : St B w [] w75 [kInt.row a73 c74 ([((placeOf 9 gw gi gb n_) + 0), ((placeOf 9 gw gi gb n_) + 1), ((placeOf 9 gw gi gb n_) + 2), ((placeOf 9 gw gi gb n_) + 3), ((placeOf 9 gw gi gb n_) + 4)]), blk b71 (.cells [(.int .i64 ((placeOf 9 gw gi gb n_) + 4))].toArray 3 (0, 0)), blk b57 (.cells [(.int .i64 ((placeOf 9 gw gi gb n_) + 3))].toArray 3 (0, 0)), blk b43 (.cells [(.int .i64 ((placeOf 9 gw gi gb n_) + 2))].toArray 3 (0, 0)), blk b29 (.cells [(.int .i64 ((placeOf 9 gw gi gb n_) + 1))].toArray 3 (0, 0)), blk b15 (.cells [(.int .i64 ((placeOf 9 gw gi gb n_) + 0))].toArray 3 (0, 0))] := hs76
 refine zE 1 ?_
 refine normal_block ?_
 refine hK66 _ _ ?_
 refine W.region ?_
 refine zE 2 ?_
 refine loopAt_next ?_
 refine loopAt_round ?_
 refine W.sr fun K78 hK78 => ?_
 refine zE 1 (hK78 _ _ ?_)
 refine W.seq fun K79 hK79 => ?_
 refine W.cond_true true (by kernel_rfl) rfl ?_
 refine W.skip ?_
 refine hK79 _ _ ?_
 refine W.seq fun K80 hK80 => ?_
 refine W.block ?_
 refine W.sr fun K81 hK81 => ?_
 refine zE 2 (hK81 _ _ ?_)
 refine W.region ?_
 refine zR 3 ?_
 have h82 : -9223372036854775808 ≤ ((placeOf 9 gw gi gb n_) + 5) ∧ ((placeOf 9 gw gi gb n_) + 5) ≤ 9223372036854775807 := by omega
 refine zI _ (wrap_i64 h82.1 h82.2) ?_
 refine ops_new (fun b => .slice (some ⟨b, 0, none⟩) 1 1) (.cells [(.int .i64 ((placeOf 9 gw gi gb n_) + 5))].toArray 3 (0, 0)) hs77 (by kernel_rfl) (fun b85 w83 hs84 => ?_)
 have hs86 := St.f1 hs84
 refine ops_appendK kInt (bytes := 8) (a' := (some ⟨b85, 0, none⟩)) (c' := 1) (l := [((placeOf 9 gw gi gb n_) + 0), ((placeOf 9 gw gi gb n_) + 1), ((placeOf 9 gw gi gb n_) + 2), ((placeOf 9 gw gi gb n_) + 3), ((placeOf 9 gw gi gb n_) + 4)]) (m := [((placeOf 9 gw gi gb n_) + 5)]) hs86 (by kernel_rfl) (by simp) (cells_blk (hs86.heapAt 1 rfl)) (by (unfold maxLen; try simp) <;> (simp only [List.length_cons, List.length_nil]; omega)) (by (try simp) <;> (simp only [List.length_cons, List.length_nil]; omega)) (fun a87 c88 w89 hs90 => ?_)
 have hs91 : St B w [] w89 [kInt.row a87 c88 ([((placeOf 9 gw gi gb n_) + 0), ((placeOf 9 gw gi gb n_) + 1), ((placeOf 9 gw gi gb n_) + 2), ((placeOf 9 gw gi gb n_) + 3), ((placeOf 9 gw gi gb n_) + 4), ((placeOf 9 gw gi gb n_) + 5)]), blk b85 (.cells [(.int .i64 ((placeOf 9 gw gi gb n_) + 5))].toArray 3 (0, 0)), blk b71 (.cells [(.int .i64 ((placeOf 9 gw gi gb n_) + 4))].toArray 3 (0, 0)), blk b57 (.cells [(.int .i64 ((placeOf 9 gw gi gb n_) + 3))].toArray 3 (0, 0)), blk b43 (.cells [(.int .i64 ((placeOf 9 gw gi gb n_) + 2))].toArray 3 (0, 0)), blk b29 (.cells [(.int .i64 ((placeOf 9 gw gi gb n_) + 1))].toArray 3 (0, 0)), blk b15 (.cells [(.int .i64 ((placeOf 9 gw gi gb n_) + 0))].toArray 3 (0, 0))] := hs90
 refine zE 1 ?_
 refine normal_block ?_
 refine hK80 _ _ ?_
 refine W.region ?_
 refine zE 2 ?_
 refine loopAt_next ?_
 refine loopAt_round ?_
 refine W.sr fun K92 hK92 => ?_
 refine zE 1 (hK92 _ _ ?_)
 refine W.seq fun K93 hK93 => ?_
 refine W.cond_true true (by kernel_rfl) rfl ?_
 refine W.skip ?_
 refine hK93 _ _ ?_
 refine W.seq fun K94 hK94 => ?_
 refine W.block ?_
 refine W.sr fun K95 hK95 => ?_
 refine zE 2 (hK95 _ _ ?_)
 refine W.region ?_
 refine zR 3 ?_
 have h96 : -9223372036854775808 ≤ ((placeOf 9 gw gi gb n_) + 6) ∧ ((placeOf 9 gw gi gb n_) + 6) ≤ 9223372036854775807 := by omega
 refine zI _ (wrap_i64 h96.1 h96.2) ?_
 refine ops_new (fun b => .slice (some ⟨b, 0, none⟩) 1 1) (.cells [(.int .i64 ((placeOf 9 gw gi gb n_) + 6))].toArray 3 (0, 0)) hs91 (by kernel_rfl) (fun b99 w97 hs98 => ?_)
 have hs100 := St.f1 hs98
 refine ops_appendK kInt (bytes := 8) (a' := (some ⟨b99, 0, none⟩)) (c' := 1) (l := [((placeOf 9 gw gi gb n_) + 0), ((placeOf 9 gw gi gb n_) + 1), ((placeOf 9 gw gi gb n_) + 2), ((placeOf 9 gw gi gb n_) + 3), ((placeOf 9 gw gi gb n_) + 4), ((placeOf 9 gw gi gb n_) + 5)]) (m := [((placeOf 9 gw gi gb n_) + 6)]) hs100 (by kernel_rfl) (by simp) (cells_blk (hs100.heapAt 1 rfl)) (by (unfold maxLen; try simp) <;> (simp only [List.length_cons, List.length_nil]; omega)) (by (try simp) <;> (simp only [List.length_cons, List.length_nil]; omega)) (fun a101 c102 w103 hs104 => ?_)
 have hs105 : St B w [] w103 [kInt.row a101 c102 ([((placeOf 9 gw gi gb n_) + 0), ((placeOf 9 gw gi gb n_) + 1), ((placeOf 9 gw gi gb n_) + 2), ((placeOf 9 gw gi gb n_) + 3), ((placeOf 9 gw gi gb n_) + 4), ((placeOf 9 gw gi gb n_) + 5), ((placeOf 9 gw gi gb n_) + 6)]), blk b99 (.cells [(.int .i64 ((placeOf 9 gw gi gb n_) + 6))].toArray 3 (0, 0)), blk b85 (.cells [(.int .i64 ((placeOf 9 gw gi gb n_) + 5))].toArray 3 (0, 0)), blk b71 (.cells [(.int .i64 ((placeOf 9 gw gi gb n_) + 4))].toArray 3 (0, 0)), blk b57 (.cells [(.int .i64 ((placeOf 9 gw gi gb n_) + 3))].toArray 3 (0, 0)), blk b43 (.cells [(.int .i64 ((placeOf 9 gw gi gb n_) + 2))].toArray 3 (0, 0)), blk b29 (.cells [(.int .i64 ((placeOf 9 gw gi gb n_) + 1))].toArray 3 (0, 0)), blk b15 (.cells [(.int .i64 ((placeOf 9 gw gi gb n_) + 0))].toArray 3 (0, 0))] := hs104
 refine zE 1 ?_
 refine normal_block ?_
 refine hK94 _ _ ?_
 refine W.region ?_
 refine zE 2 ?_
 refine loopAt_next ?_
 refine loopAt_round ?_
 refine W.sr fun K106 hK106 => ?_
 refine zE 1 (hK106 _ _ ?_)
 refine W.seq fun K107 hK107 => ?_
 refine W.cond_true true (by kernel_rfl) rfl ?_
 refine W.skip ?_
 refine hK107 _ _ ?_
 refine W.seq fun K108 hK108 => ?_
 refine W.block ?_
 refine W.sr fun K109 hK109 => ?_
 refine zE 2 (hK109 _ _ ?_)
 refine W.region ?_
 refine zR 3 ?_
 have h110 : -9223372036854775808 ≤ ((placeOf 9 gw gi gb n_) + 7) ∧ ((placeOf 9 gw gi gb n_) + 7) ≤ 9223372036854775807 := by omega
 refine zI _ (wrap_i64 h110.1 h110.2) ?_
 refine ops_new (fun b => .slice (some ⟨b, 0, none⟩) 1 1) (.cells [(.int .i64 ((placeOf 9 gw gi gb n_) + 7))].toArray 3 (0, 0)) hs105 (by kernel_rfl) (fun b113 w111 hs112 => ?_)
 have hs114 := St.f1 hs112
 refine ops_appendK kInt (bytes := 8) (a' := (some ⟨b113, 0, none⟩)) (c' := 1) (l := [((placeOf 9 gw gi gb n_) + 0), ((placeOf 9 gw gi gb n_) + 1), ((placeOf 9 gw gi gb n_) + 2), ((placeOf 9 gw gi gb n_) + 3), ((placeOf 9 gw gi gb n_) + 4), ((placeOf 9 gw gi gb n_) + 5), ((placeOf 9 gw gi gb n_) + 6)]) (m := [((placeOf 9 gw gi gb n_) + 7)]) hs114 (by kernel_rfl) (by simp) (cells_blk (hs114.heapAt 1 rfl)) (by (unfold maxLen; try simp) <;> (simp only [List.length_cons, List.length_nil]; omega)) (by (try simp) <;> (simp only [List.length_cons, List.length_nil]; omega)) (fun a115 c116 w117 hs118 => ?_)
 have hs119 : St B w [] w117 [kInt.row a115 c116 ([((placeOf 9 gw gi gb n_) + 0), ((placeOf 9 gw gi gb n_) + 1), ((placeOf 9 gw gi gb n_) + 2), ((placeOf 9 gw gi gb n_) + 3), ((placeOf 9 gw gi gb n_) + 4), ((placeOf 9 gw gi gb n_) + 5), ((placeOf 9 gw gi gb n_) + 6), ((placeOf 9 gw gi gb n_) + 7)]), blk b113 (.cells [(.int .i64 ((placeOf 9 gw gi gb n_) + 7))].toArray 3 (0, 0)), blk b99 (.cells [(.int .i64 ((placeOf 9 gw gi gb n_) + 6))].toArray 3 (0, 0)), blk b85 (.cells [(.int .i64 ((placeOf 9 gw gi gb n_) + 5))].toArray 3 (0, 0)), blk b71 (.cells [(.int .i64 ((placeOf 9 gw gi gb n_) + 4))].toArray 3 (0, 0)), blk b57 (.cells [(.int .i64 ((placeOf 9 gw gi gb n_) + 3))].toArray 3 (0, 0)), blk b43 (.cells [(.int .i64 ((placeOf 9 gw gi gb n_) + 2))].toArray 3 (0, 0)), blk b29 (.cells [(.int .i64 ((placeOf 9 gw gi gb n_) + 1))].toArray 3 (0, 0)), blk b15 (.cells [(.int .i64 ((placeOf 9 gw gi gb n_) + 0))].toArray 3 (0, 0))] := hs118
 refine zE 1 ?_
 refine normal_block ?_
 refine hK108 _ _ ?_
 refine W.region ?_
 refine zE 2 ?_
 refine loopAt_next ?_
 refine loopAt_round ?_
 refine W.sr fun K120 hK120 => ?_
 refine zE 1 (hK120 _ _ ?_)
 refine W.seq fun K121 hK121 => ?_
 refine W.cond_false false (by kernel_rfl) rfl ?_
 refine W.exit (exit_seq (exit_seq (exit_here ?_)))
 refine hK6 _ _ ?_
 refine W.sr fun K122 hK122 => ?_
 refine zE 2 (hK122 _ _ ?_)
 refine W.ret ?_
 have hs123 := St.tk1 hs119
 refine ret_of (.slice a115 (([((placeOf 9 gw gi gb n_) + 0), ((placeOf 9 gw gi gb n_) + 1), ((placeOf 9 gw gi gb n_) + 2), ((placeOf 9 gw gi gb n_) + 3), ((placeOf 9 gw gi gb n_) + 4), ((placeOf 9 gw gi gb n_) + 5), ((placeOf 9 gw gi gb n_) + 6), ((placeOf 9 gw gi gb n_) + 7)]).length) c116) (by kernel_rfl) ⟨_, ⟨a115, c116, rfl, rfl⟩, hs123⟩

end Go.Proofs.YtmmclabkkigiaaaGreatDoor

set_option linter.unusedVariables false
set_option maxRecDepth 20000
namespace Go.Proofs.YtmmclabkkigiaaaGreatDoor
open Go Go.RowKit
set_option linter.unusedSimpArgs false
set_option linter.unusedVariables false

def atake1_J1 (r6 : Int × Bool) (p22 : Int) (l23 : List (Int × Int)) : Option (Int × Int × List (Int × Int)) :=
 if p22 = 0 then (some (r6.1, 0, l23)) else (some (0, p22, l23))

def atake1_J2 (img : List Int) (gw : Int) (gi : Int) (gb : Int) (r6 : Int × Bool) (r15 : Int × List (Int × Int)) (p39 : Bool) : Option (Int × Int × List (Int × Int)) :=
 if p39 = true then (need (-1000000 ≤ (placeOf 9 gw gi gb r6.1) ∧ (placeOf 9 gw gi gb r6.1) ≤ 1000000) <|
(aclear_M img r15.2 ([((placeOf 9 gw gi gb r6.1) + 0), ((placeOf 9 gw gi gb r6.1) + 1), ((placeOf 9 gw gi gb r6.1) + 2), ((placeOf 9 gw gi gb r6.1) + 3), ((placeOf 9 gw gi gb r6.1) + 4), ((placeOf 9 gw gi gb r6.1) + 5), ((placeOf 9 gw gi gb r6.1) + 6), ((placeOf 9 gw gi gb r6.1) + 7)])).bind fun r49 =>
atake1_J1 r6 r49.1 r49.2) else (atake1_J1 r6 r15.1 r15.2)

def atake1_M (img : List Int) (l : List (Int × Int)) (gw : Int) (gi : Int) (gb : Int) (at_ : Int) (many : Int) : Option (Int × Int × List (Int × Int)) :=
 (mclear_M img l at_ many).bind fun r6 =>
if r6.2 = true then ((mset_M img l at_ many r6.1 true).bind fun r15 =>
if r15.1 = 0 then (atake1_J2 img gw gi gb r6 r15 true) else (atake1_J2 img gw gi gb r6 r15 false)) else (some (0, 7, l))

theorem atake1_walk {img : List Int} {l : List (Int × Int)} {gw : Int} {gi : Int} {gb : Int} {at_ : Int} {many : Int} {pm : Int} {ab ib bb vb mb cb : Nat} {r : Int × Int × List (Int × Int)} (B : Nat) (w : World) (hG : 1 < B) (hT : CellsAt (some ⟨1, 0, none⟩) tab8 w) (hm : atake1_M img l gw gi gb at_ many = some r) : Spec Tryz.prog 146 #[(.pointer (some ⟨ab, 0, none⟩)), (.agg #[(.pointer (some ⟨mb, 0, none⟩)), (.int .i64 pm)]), (.func (.func 147) #[] #[(.pointer (some ⟨cb, 0, none⟩))])] B w [blk ab (.cells [(.pointer (some ⟨vb, 0, none⟩)), (.int .i64 gw), (.int .i64 gi), (.int .i64 gb), (.pointer (some ⟨ib, 0, none⟩)), (.int .i64 gi), (.pointer (some ⟨bb, 0, none⟩)), (.int .i64 gb)].toArray 208 (0, 0)), blk mb (.cells [(.pointer (some ⟨vb, 0, none⟩)), (.int .i64 at_), (.int .i64 many)].toArray 213 (0, 0)), blk cb (.cells [(.pointer (some ⟨ab, 0, none⟩))].toArray 192 (0, 0)), viewA (ptr vb) img l] (fun v H' => v = .tuple #[.int .i64 r.1, .int .i64 r.2.1] ∧ H' = [blk ab (.cells [(.pointer (some ⟨vb, 0, none⟩)), (.int .i64 gw), (.int .i64 gi), (.int .i64 gb), (.pointer (some ⟨ib, 0, none⟩)), (.int .i64 gi), (.pointer (some ⟨bb, 0, none⟩)), (.int .i64 gb)].toArray 208 (0, 0)), blk mb (.cells [(.pointer (some ⟨vb, 0, none⟩)), (.int .i64 at_), (.int .i64 many)].toArray 213 (0, 0)), blk cb (.cells [(.pointer (some ⟨ab, 0, none⟩))].toArray 192 (0, 0)), viewA (ptr vb) img r.2.2]) := by
 refine spec_W Tryz.func146 rfl fun l0 hs => ?_
 unfold atake1_M at hm
 refine W.sr fun K1 hK1 => ?_
 refine zN [(.pointer (some ⟨mb, 0, none⟩)), (.int .i64 pm)] 206 hs fun b4 w2 hs3 => ?_
 refine zE 2 (hK1 _ _ ?_)
 refine W.sr fun K5 hK5 => ?_
 refine zR 1 ?_
 refine zL ⟨b4, 0, none⟩ (.pointer (some ⟨mb, 0, none⟩)) (hs3.cellAt 0 rfl rfl) ?_
 obtain ⟨r6, h7, hm⟩ := bind_some hm
 refine zC00 hs3 (mclear_walk (hmb := (hs3.heapAt 2 rfl)) (hv := (hs3.entAt 4 rfl viewA_at)) (hT := (hs3.oldCellsB hG hT)) (hm := h7) B _) fun w8 hs10 => ?_
 refine zE 5 (hK5 _ _ ?_)
 refine W.seq fun K11 hK11 => ?_
 refine W.sr fun K12 hK12 => ?_
 refine zE 2 (hK12 _ _ ?_)
 refine W.cond (!r6.2) (by kernel_rfl) (fun h13 => ?_) (fun h13 => ?_)
 rotate_left
 ·
  have h13p : r6.2 = true := (bnot_false h13)
  replace hm := ite_yes hm h13p
  refine W.skip ?_
  refine hK11 _ _ ?_
  refine W.sr fun K14 hK14 => ?_
  refine zR 1 ?_
  refine zL ⟨b4, 0, none⟩ (.pointer (some ⟨mb, 0, none⟩)) (hs10.cellAt 0 rfl rfl) ?_
  refine zR 1 ?_
  obtain ⟨r15, h16, hm⟩ := bind_some hm
  have hs17 := St.f4 hs10
  have hs18 := St.f3 hs17
  refine zC22 hs18 (mset_walk (hm := h16) B _) fun w19 hs21 => ?_
  refine zE 1 (hK14 _ _ ?_)
  refine W.seq_join (fun s_ w_ => ∃ (p22 : Int) (l23 : List (Int × Int)), (∃ us, s_ = slots 38 [(8, (.int .i64 r6.1)), (10, (.int .i64 p22))] us) ∧ St B w l0 w_ [viewA (ptr vb) img l23, blk mb (.cells [(.pointer (some ⟨vb, 0, none⟩)), (.int .i64 at_), (.int .i64 many)].toArray 213 (0, 0)), blk b4 (.cells [(.pointer (some ⟨mb, 0, none⟩)), (.int .i64 pm)].toArray 206 (0, 0)), blk ab (.cells [(.pointer (some ⟨vb, 0, none⟩)), (.int .i64 gw), (.int .i64 gi), (.int .i64 gb), (.pointer (some ⟨ib, 0, none⟩)), (.int .i64 gi), (.pointer (some ⟨bb, 0, none⟩)), (.int .i64 gb)].toArray 208 (0, 0)), blk cb (.cells [(.pointer (some ⟨ab, 0, none⟩))].toArray 192 (0, 0))] ∧ atake1_J1 r6 p22 l23 = some r) ?_ ?_
  ·
   rintro _ w24 ⟨p22, l23, ⟨us, rfl⟩, hs25, hm⟩
   unfold atake1_J1 at hm
   refine W.seq fun K26 hK26 => ?_
   refine W.sr fun K27 hK27 => ?_
   refine zE 2 (hK27 _ _ ?_)
   refine W.cond (!decide (p22 = 0)) (by kernel_rfl) (fun h28 => ?_) (fun h28 => ?_)
   rotate_left
   ·
    have h28p : p22 = 0 := of_decide_eq_true (bnot_false h28)
    replace hm := ite_yes hm h28p
    refine W.skip ?_
    refine hK26 _ _ ?_
    refine W.sr fun K29 hK29 => ?_
    refine zE 3 (hK29 _ _ ?_)
    refine W.ret ?_
    obtain rfl := some_inj hm
    have hs30 := St.f4 hs25
    have hs31 := St.f2 hs30
    have hs32 := St.f4 hs31
    have hs33 := St.tk4 hs32
    refine ret_of (.tuple #[(.int .i64 r6.1), (.int .i64 0)]) (by kernel_rfl) ⟨_, ⟨rfl, rfl⟩, hs33⟩
   ·
    have h28p : ¬ (p22 = 0) := of_decide_eq_false (bnot_true h28)
    replace hm := ite_no hm h28p
    refine W.sr fun K34 hK34 => ?_
    refine zE 3 (hK34 _ _ ?_)
    refine W.ret (ret_seq ?_)
    obtain rfl := some_inj hm
    have hs35 := St.f4 hs25
    have hs36 := St.f2 hs35
    have hs37 := St.f4 hs36
    have hs38 := St.tk4 hs37
    refine ret_of (.tuple #[(.int .i64 0), (.int .i64 p22)]) (by kernel_rfl) ⟨_, ⟨rfl, rfl⟩, hs38⟩
  ·
   refine W.seq_join (fun s_ w_ => ∃ (p39 : Bool), (∃ us, s_ = slots 38 [(0, (.pointer (some ⟨ab, 0, none⟩))), (2, (.func (.func 147) #[] #[(.pointer (some ⟨cb, 0, none⟩))])), (8, (.int .i64 r6.1)), (10, (.int .i64 r15.1)), (28, (.bool p39))] us) ∧ St B w l0 w_ [viewA (ptr vb) img r15.2, blk ab (.cells [(.pointer (some ⟨vb, 0, none⟩)), (.int .i64 gw), (.int .i64 gi), (.int .i64 gb), (.pointer (some ⟨ib, 0, none⟩)), (.int .i64 gi), (.pointer (some ⟨bb, 0, none⟩)), (.int .i64 gb)].toArray 208 (0, 0)), blk mb (.cells [(.pointer (some ⟨vb, 0, none⟩)), (.int .i64 at_), (.int .i64 many)].toArray 213 (0, 0)), blk b4 (.cells [(.pointer (some ⟨mb, 0, none⟩)), (.int .i64 pm)].toArray 206 (0, 0)), blk cb (.cells [(.pointer (some ⟨ab, 0, none⟩))].toArray 192 (0, 0))] ∧ atake1_J2 img gw gi gb r6 r15 p39 = some r) ?_ ?_
   ·
    rintro _ w40 ⟨p39, ⟨us, rfl⟩, hs41, hm⟩
    unfold atake1_J2 at hm
    refine W.cond p39 (by kernel_rfl) (fun h42 => ?_) (fun h42 => ?_)
    ·
     have h42p : p39 = true := h42
     replace hm := ite_yes hm h42p
     refine W.region ?_
     refine zR 3 ?_
     obtain ⟨h45, hm⟩ := need_some hm
     refine ops_call0 hs41 (by kernel_rfl) (own_spec (n_ := r6.1) (hpl := h45) (hcb := (hs41.heapAt 4 rfl)) (hab := (hs41.heapAt 1 rfl)) B _) ?_
     rintro _ _ w46 ⟨a43, c44, rfl, rfl⟩ hs47
     have hs48 := St.ap1 hs47
     obtain ⟨r49, h50, hm⟩ := bind_some hm
     have hs51 := St.f1 hs48
     have hs52 := St.f1 hs51
     have hs53 := St.f2 hs52
     refine ops_call3 hs53 (by kernel_rfl) (aclear_walk (hm := h50) B _) ?_
     rintro _ _ w54 ⟨rfl, rfl⟩ hs55
     have hs56 := St.ap3 hs55
     refine zE 1 ?_
     have hs57 := St.f5 hs56
     have hs58 := St.f1 hs57
     have hs59 := St.f5 hs58
     have hs60 := St.f5 hs59
     have hs61 := St.f5 hs60
     have hs62 := St.tk5 hs61
     exact ⟨r49.1, r49.2, slots_intro _ (by kernel_rfl), hs62, hm⟩
    ·
     have h42p : ¬ (p39 = true) := ne_true_of_eq_false h42
     replace hm := ite_no hm h42p
     refine W.skip ?_
     have hs63 := St.f4 hs41
     have hs64 := St.f2 hs63
     have hs65 := St.f4 hs64
     have hs66 := St.f4 hs65
     have hs67 := St.f4 hs66
     exact ⟨r15.1, r15.2, slots_intro _ (by kernel_rfl), hs67, hm⟩
   ·
    refine W.region ?_
    refine zR 3 ?_
    rcases Bool.eq_false_or_eq_true (decide (r15.1 = 0)) with h68 | h68
    ·
     obtain ⟨h68p, hm⟩ := iY hm h68
     refine zS 25 h68 ?_
     refine zS 24 h68 ?_
     refine zE 3 ?_
     have hs69 := St.f4 hs21
     have hs70 := St.f3 hs69
     have hs71 := St.f2 hs70
     have hs72 := St.f4 hs71
     have hs73 := St.f4 hs72
     exact ⟨true, slots_intro _ (by kernel_rfl), hs73, hm⟩
    ·
     obtain ⟨h68p, hm⟩ := iN hm h68
     refine zS 25 h68 ?_
     refine zS 24 h68 ?_
     refine zE 3 ?_
     have hs74 := St.f4 hs21
     have hs75 := St.f3 hs74
     have hs76 := St.f2 hs75
     have hs77 := St.f4 hs76
     have hs78 := St.f4 hs77
     exact ⟨false, slots_intro _ (by kernel_rfl), hs78, hm⟩
 ·
  have h13p : ¬ (r6.2 = true) := ne_true_of_eq_false (bnot_true h13)
  replace hm := ite_no hm h13p
  refine W.sr fun K79 hK79 => ?_
  refine zE 2 (hK79 _ _ ?_)
  refine W.ret (ret_seq ?_)
  obtain rfl := some_inj hm
  have hs80 := St.f4 hs10
  have hs81 := St.f4 hs80
  have hs82 := St.f4 hs81
  have hs83 := St.f4 hs82
  have hs84 := St.tk4 hs83
  refine ret_of (.tuple #[(.int .i64 0), (.int .i64 7)]) (by kernel_rfl) ⟨_, ⟨rfl, rfl⟩, hs84⟩

end Go.Proofs.YtmmclabkkigiaaaGreatDoor

set_option maxRecDepth 20000
namespace Go.Proofs.YtmmclabkkigiaaaGreatDoor
open Go Go.RowKit
set_option linter.unusedSimpArgs false
set_option linter.unusedVariables false

theorem of_ok {vb : Nat} {img : List Int} {l : List (Int × Int)} {at_ many : Int} (B : Nat) (w : World) (hv : ViewAt (ptr vb) img l w) (hz : (img.length : Int) ≤ 1000000000000) (ho : (0 ≤ at_ ∧ at_ < (img.length : Int)) ∧ (1 ≤ many ∧ many ≤ 1000000000000) ∧ (many - 1) / 64 < (img.length : Int) - at_) : Spec Tryz.prog 135 #[(.pointer (some ⟨vb, 0, none⟩)), (.int .i64 at_), (.int .i64 many)] B w [] (fun v H' => ∃ b', v = .tuple #[ptr b', .int .i64 0] ∧ H' = [blk b' (.cells [(.pointer (some ⟨vb, 0, none⟩)), (.int .i64 at_), (.int .i64 many)].toArray 213 (0, 0))]) := by
 refine spec_Q Tryz.func135 rfl fun hs => ?_
 refine W.sr fun K1 hK1 => ?_
 refine zE 2 (hK1 _ _ ?_)
 refine W.seq fun K2 hK2 => ?_
 refine W.block ?_
 refine W.sr fun K3 hK3 => ?_
 refine zE 3 (hK3 _ _ ?_)
 refine W.cond_false false (by kernel_rfl) rfl ?_
 refine W.sr fun K4 hK4 => ?_
 refine zE 3 (hK4 _ _ ?_)
 refine W.cond (decide (many < 1)) (by kernel_rfl) (fun h5 => ?_) (fun h5 => ?_)
 ·
  have h5p := of_decide_eq_true h5
  refine W.sr fun K6 hK6 => ?_
  refine zE 2 (hK6 _ _ ?_)
  refine W.ret (ret_block (ret_seq ?_))
  exfalso
  omega
 ·
  have h5p := of_decide_eq_false h5
  refine W.seq fun K7 hK7 => ?_
  refine W.sr fun K8 hK8 => ?_
  refine zE 3 (hK8 _ _ ?_)
  refine W.cond (decide (at_ < 0)) (by kernel_rfl) (fun h9 => ?_) (fun h9 => ?_)
  ·
   have h9p := of_decide_eq_true h9
   refine W.skip ?_
   refine hK7 _ _ ?_
   refine W.cond (decide (at_ < 0)) (by kernel_rfl) (fun h10 => ?_) (fun h10 => ?_)
   ·
    have h10p := of_decide_eq_true h10
    refine W.sr fun K11 hK11 => ?_
    refine zE 2 (hK11 _ _ ?_)
    refine W.ret (ret_block (ret_seq ?_))
    exfalso
    omega
   ·
    have h10p := of_decide_eq_false h10
    refine W.skip ?_
    refine normal_block ?_
    refine hK2 _ _ ?_
    refine W.sr fun K12 hK12 => ?_
    refine zR 4 ?_
    refine zN [(.pointer (some ⟨vb, 0, none⟩)), (.int .i64 at_), (.int .i64 many)] 213 hs fun b15 w13 hs14 => ?_
    refine zE 2 (hK12 _ _ ?_)
    refine W.ret ?_
    refine ret_of (.tuple #[(.pointer (some ⟨b15, 0, none⟩)), (.int .i64 0)]) (by kernel_rfl) ⟨_, ⟨b15, rfl, rfl⟩, hs14⟩
  ·
   have h9p := of_decide_eq_false h9
   refine W.sr fun K16 hK16 => ?_
   refine zR 2 ?_
   refine zC00 hs (len_spec (hv := (viewAt_old hs hv)) B _) fun w17 hs19 => ?_
   refine zE 2 (hK16 _ _ ?_)
   refine W.cond (decide (at_ ≥ (img.length : Int))) (by kernel_rfl) (fun h20 => ?_) (fun h20 => ?_)
   ·
    have h20p := of_decide_eq_true h20
    refine W.skip ?_
    refine hK7 _ _ ?_
    refine W.cond (decide (at_ ≥ (img.length : Int))) (by kernel_rfl) (fun h21 => ?_) (fun h21 => ?_)
    ·
     have h21p := of_decide_eq_true h21
     refine W.sr fun K22 hK22 => ?_
     refine zE 2 (hK22 _ _ ?_)
     refine W.ret (ret_block (ret_seq ?_))
     exfalso
     omega
    ·
     have h21p := of_decide_eq_false h21
     refine W.skip ?_
     refine normal_block ?_
     refine hK2 _ _ ?_
     refine W.sr fun K23 hK23 => ?_
     refine zR 4 ?_
     refine zN [(.pointer (some ⟨vb, 0, none⟩)), (.int .i64 at_), (.int .i64 many)] 213 hs19 fun b26 w24 hs25 => ?_
     refine zE 2 (hK23 _ _ ?_)
     refine W.ret ?_
     refine ret_of (.tuple #[(.pointer (some ⟨b26, 0, none⟩)), (.int .i64 0)]) (by kernel_rfl) ⟨_, ⟨b26, rfl, rfl⟩, hs25⟩
   ·
    have h20p := of_decide_eq_false h20
    refine W.region ?_
    refine zR 1 ?_
    have h27 : -9223372036854775808 ≤ (many - 1) ∧ (many - 1) ≤ 9223372036854775807 := by omega
    refine zI _ (wrap_i64 h27.1 h27.2) ?_
    have h28 : 0 ≤ (many - 1) := by omega
    have h29 : -9223372036854775808 ≤ ((many - 1) / 64) ∧ ((many - 1) / 64) ≤ 9223372036854775807 := by omega
    refine ops_R (v := .int .i64 ((many - 1) / 64)) (runs_quo (k := .i64) (a := (many - 1)) (b := 64) (by kernel_rfl) (by decide) ((congrArg IntKind.i64.wrap (Int.tdiv_eq_ediv_of_nonneg h28)).trans (wrap_i64 h29.1 h29.2))) ?_
    refine zR 1 ?_
    refine zC00 hs19 (len_spec (hv := (viewAt_old hs19 hv)) B _) fun w30 hs32 => ?_
    refine zR 1 ?_
    have h33 : -9223372036854775808 ≤ ((img.length : Int) - at_) ∧ ((img.length : Int) - at_) ≤ 9223372036854775807 := by omega
    refine zI _ (wrap_i64 h33.1 h33.2) ?_
    refine zE 2 (hK7 _ _ ?_)
    refine W.cond (decide (((many - 1) / 64) ≥ ((img.length : Int) - at_))) (by kernel_rfl) (fun h34 => ?_) (fun h34 => ?_)
    ·
     have h34p := of_decide_eq_true h34
     refine W.sr fun K35 hK35 => ?_
     refine zE 2 (hK35 _ _ ?_)
     refine W.ret (ret_block (ret_seq ?_))
     exfalso
     omega
    ·
     have h34p := of_decide_eq_false h34
     refine W.skip ?_
     refine normal_block ?_
     refine hK2 _ _ ?_
     refine W.sr fun K36 hK36 => ?_
     refine zR 4 ?_
     refine zN [(.pointer (some ⟨vb, 0, none⟩)), (.int .i64 at_), (.int .i64 many)] 213 hs32 fun b39 w37 hs38 => ?_
     refine zE 2 (hK36 _ _ ?_)
     refine W.ret ?_
     refine ret_of (.tuple #[(.pointer (some ⟨b39, 0, none⟩)), (.int .i64 0)]) (by kernel_rfl) ⟨_, ⟨b39, rfl, rfl⟩, hs38⟩

end Go.Proofs.YtmmclabkkigiaaaGreatDoor

set_option maxRecDepth 20000
namespace Go.Proofs.YtmmclabkkigiaaaGreatDoor
open Go Go.RowKit
set_option linter.unusedSimpArgs false
set_option linter.unusedVariables false

theorem anew_ok {vb : Nat} {img : List Int} {l : List (Int × Int)} {gw gi gb : Int} (B : Nat) (w : World) (hv : ViewAt (ptr vb) img l w) (hz : (img.length : Int) ≤ 1000000000000) (hP : May gw gi gb ∧ wordsOf gw gi gb ≤ (img.length : Int)) : Spec Tryz.prog 115 #[(.pointer (some ⟨vb, 0, none⟩)), (.agg #[(.int .i64 gw), (.int .i64 gi), (.int .i64 gb)])] B w [] (fun v H' => ∃ ab ib bb, v = .tuple #[ptr ab, .int .i64 0] ∧ H' = [blk ab (.cells [(.pointer (some ⟨vb, 0, none⟩)), (.int .i64 gw), (.int .i64 gi), (.int .i64 gb), (.pointer (some ⟨ib, 0, none⟩)), (.int .i64 gi), (.pointer (some ⟨bb, 0, none⟩)), (.int .i64 gb)].toArray 208 (0, 0)), blk ib (.cells [(.pointer (some ⟨vb, 0, none⟩)), (.int .i64 (placeOf 6 gw gi gb 0)), (.int .i64 gi)].toArray 213 (0, 0)), blk bb (.cells [(.pointer (some ⟨vb, 0, none⟩)), (.int .i64 (placeOf 7 gw gi gb 0)), (.int .i64 gb)].toArray 213 (0, 0))]) := by
 refine spec_Q Tryz.func115 rfl fun hs => ?_
 have hm : May gw gi gb := hP.1
 have hl := hP.2
 have hm_ : (1 ≤ gw ∧ gw ≤ 4) ∧ (2 ≤ gi ∧ gi ≤ 64) ∧ (2 ≤ gb ∧ gb ≤ 512) := hm
 have hwd := words_may hm
 have hp6 := place6 hm
 have hp7 := place7 hm
 refine W.sr fun K1 hK1 => ?_
 refine zN [(.int .i64 gw), (.int .i64 gi), (.int .i64 gb)] 31 hs fun b4 w2 hs3 => ?_
 refine zE 2 (hK1 _ _ ?_)
 refine W.seq fun K5 hK5 => ?_
 refine W.block ?_
 refine W.sr fun K6 hK6 => ?_
 refine zE 3 (hK6 _ _ ?_)
 refine W.cond_false false (by kernel_rfl) rfl ?_
 refine W.sr fun K7 hK7 => ?_
 refine ops_R (runs_loadAgg (ad := ⟨b4, 0, none⟩) (cs := [(.int .i64 gw), (.int .i64 gi), (.int .i64 gb)]) (by kernel_rfl) (cells_sub (hs3.heapAt 0 rfl) rfl)) ?_
 refine zC00 hs3 (may_spec (gw := gw) (gi := gi) (gb := gb) B _) fun w8 hs10 => ?_
 refine zE 2 (hK7 _ _ ?_)
 refine W.cond (!(decide (May gw gi gb))) (by kernel_rfl) (fun h11 => ?_) (fun h11 => ?_)
 ·
  have h11p : ¬ (May gw gi gb) := of_decide_eq_false (bnot_true h11)
  refine W.sr fun K12 hK12 => ?_
  refine zE 2 (hK12 _ _ ?_)
  refine W.ret (ret_block (ret_seq ?_))
  exfalso
  first | omega | (exact absurd hm (by assumption))
 ·
  have h11p : May gw gi gb := of_decide_eq_true (bnot_false h11)
  refine W.seq fun K13 hK13 => ?_
  have hs14 := hs10.drew
  refine W.regionD [(0, 0), (1, 1), (0, 0), (6, 4), (10, 10), (24, 16)] (fun w_ => St B w [] w_ [blk b4 (.cells [(.int .i64 gw), (.int .i64 gi), (.int .i64 gb)].toArray 31 (0, 0))]) (by kernel_rfl) hs14 ?_
  refine any_val (v := (.pointer (some ⟨vb, 0, none⟩))) (v' := (.pointer (some ⟨vb, 0, none⟩))) 0 (by kernel_rfl) (fun _ => by kernel_rfl) rfl hs14 ?_
  refine any_R 2 (by kernel_rfl) (fun _ hS_ => runs_loadAgg (ad := ⟨b4, 0, none⟩) (cs := [(.int .i64 gw), (.int .i64 gi), (.int .i64 gb)]) (by kernel_rfl) (cells_sub (hS_.heapAt 0 rfl) rfl)) hs14 ?_
  refine any_step 1 (by kernel_rfl) (by kernel_rfl) ?_
  refine zC00 hs14 (len_spec (hv := (viewAt_old hs14 hv)) B _) fun w15 hs17 => ?_
  refine ops_done (by kernel_rfl) ⟨hs17, ?_⟩
  refine any_step 3 (by kernel_rfl) (by kernel_rfl) ?_
  refine zC00 hs17 (lwords_spec (gw := gw) (gi := gi) (gb := gb) B _) fun w18 hs20 => ?_
  refine ops_done (by kernel_rfl) ⟨hs20, ?_⟩
  refine any_val (v := (.bool (decide ((img.length : Int) < (wordsOf gw gi gb))))) (v' := (.bool (decide ((img.length : Int) < (wordsOf gw gi gb))))) 4 (by kernel_rfl) (fun _ => by kernel_rfl) rfl hs20 ?_
  refine any_val (v := (.bool (decide ((img.length : Int) < (wordsOf gw gi gb))))) (v' := (.bool (decide ((img.length : Int) < (wordsOf gw gi gb))))) 5 (by kernel_rfl) (fun _ => by kernel_rfl) rfl hs20 ?_
  refine any_done (by kernel_rfl) ?_
  refine hK13 _ _ ?_
  refine W.cond (decide ((img.length : Int) < (wordsOf gw gi gb))) (by kernel_rfl) (fun h21 => ?_) (fun h21 => ?_)
  ·
   have h21p := of_decide_eq_true h21
   refine W.sr fun K22 hK22 => ?_
   refine zE 2 (hK22 _ _ ?_)
   refine W.ret (ret_block (ret_seq ?_))
   exfalso
   first | omega | (exact absurd hm (by assumption))
  ·
   have h21p := of_decide_eq_false h21
   refine W.skip ?_
   refine normal_block ?_
   refine hK5 _ _ ?_
   refine W.seq fun K23 hK23 => ?_
   have hs24 := hs20.drew
   refine W.regionD [(0, 0), (0, 0), (2, 2), (0, 0), (8, 8), (21, 21), (32, 32), (64, 64), (64, 64), (255, 128), (1023, 256)] (fun w_ => St B w [] w_ [blk b4 (.cells [(.int .i64 gw), (.int .i64 gi), (.int .i64 gb)].toArray 31 (0, 0))]) (by kernel_rfl) hs24 ?_
   refine any_val (v := (.pointer (some ⟨vb, 0, none⟩))) (v' := (.pointer (some ⟨vb, 0, none⟩))) 0 (by kernel_rfl) (fun _ => by kernel_rfl) rfl hs24 ?_
   refine any_R 1 (by kernel_rfl) (fun _ hS_ => runs_loadAgg (ad := ⟨b4, 0, none⟩) (cs := [(.int .i64 gw), (.int .i64 gi), (.int .i64 gb)]) (by kernel_rfl) (cells_sub (hS_.heapAt 0 rfl) rfl)) hs24 ?_
   refine any_val (v := (.pointer (some ⟨b4, 1, none⟩))) (v' := (.pointer (some ⟨b4, 1, none⟩))) 3 (by kernel_rfl) (fun _ => by kernel_rfl) rfl hs24 ?_
   refine any_R 4 (by kernel_rfl) (fun _ hS_ => runs_load (ad := ⟨b4, 1, none⟩) (v := (.int .i64 gi)) (by kernel_rfl) (hS_.cellAt 0 rfl rfl)) hs24 ?_
   refine any_step 2 (by kernel_rfl) (by kernel_rfl) ?_
   refine zC00 hs24 (lmap6_spec (gw := gw) (gi := gi) (gb := gb) B _) fun w25 hs27 => ?_
   refine ops_done (by kernel_rfl) ⟨hs27, ?_⟩
   refine any_step 5 (by kernel_rfl) (by kernel_rfl) ?_
   have h28 : (img.length : Int) ≤ 1000000000000 := by first | omega | (exact absurd hm (by assumption))
   have h29 : (0 ≤ ((placeOf 6 gw gi gb 0) : Int) ∧ ((placeOf 6 gw gi gb 0) : Int) < (img.length : Int)) ∧ (1 ≤ (gi : Int) ∧ (gi : Int) ≤ 1000000000000) ∧ ((gi : Int) - 1) / 64 < (img.length : Int) - ((placeOf 6 gw gi gb 0) : Int) := by first | omega | (exact absurd hm (by assumption))
   refine ops_call0 hs27 (by kernel_rfl) (of_ok (hv := (viewAt_old hs27 hv)) (hz := h28) (ho := h29) B _) ?_
   rintro _ _ w31 ⟨b30, rfl, rfl⟩ hs32
   have hs33 := St.ap1 hs32
   have hs34 := St.f1 hs33
   have hs35 := St.tk1 hs34
   refine ops_done (by kernel_rfl) ⟨hs35, ?_⟩
   refine any_val (v := (.tuple #[(.pointer (some ⟨b30, 0, none⟩)), (.int .i64 0)])) (v' := (.tuple #[(.pointer (some ⟨b30, 0, none⟩)), (.int .i64 0)])) 6 (by kernel_rfl) (fun _ => by kernel_rfl) rfl hs35 ?_
   refine any_val (v := (.pointer (some ⟨b30, 0, none⟩))) (v' := (.pointer (some ⟨b30, 0, none⟩))) 7 (by kernel_rfl) (fun _ => by kernel_rfl) rfl hs35 ?_
   refine any_val (v := (.int .i64 0)) (v' := (.int .i64 0)) 8 (by kernel_rfl) (fun _ => by kernel_rfl) rfl hs35 ?_
   refine any_val (v := (.pointer (some ⟨b30, 0, none⟩))) (v' := (.pointer (some ⟨b30, 0, none⟩))) 9 (by kernel_rfl) (fun _ => by kernel_rfl) rfl hs35 ?_
   refine any_val (v := (.int .i64 0)) (v' := (.int .i64 0)) 10 (by kernel_rfl) (fun _ => by kernel_rfl) rfl hs35 ?_
   refine any_done (by kernel_rfl) ?_
   refine hK23 _ _ ?_
   refine W.seq fun K36 hK36 => ?_
   refine W.sr fun K37 hK37 => ?_
   refine zE 2 (hK37 _ _ ?_)
   refine W.cond_false false (by kernel_rfl) rfl ?_
   refine W.skip ?_
   refine hK36 _ _ ?_
   refine W.seq fun K38 hK38 => ?_
   have hs39 := hs33.drew
   refine W.regionD [(0, 0), (0, 0), (2, 2), (0, 0), (8, 8), (21, 21), (32, 32), (64, 64), (64, 64), (255, 128), (1023, 256)] (fun w_ => St B w [] w_ [blk b30 (.cells [(.pointer (some ⟨vb, 0, none⟩)), (.int .i64 (placeOf 6 gw gi gb 0)), (.int .i64 gi)].toArray 213 (0, 0)), blk b4 (.cells [(.int .i64 gw), (.int .i64 gi), (.int .i64 gb)].toArray 31 (0, 0))]) (by kernel_rfl) hs39 ?_
   refine any_val (v := (.pointer (some ⟨vb, 0, none⟩))) (v' := (.pointer (some ⟨vb, 0, none⟩))) 0 (by kernel_rfl) (fun _ => by kernel_rfl) rfl hs39 ?_
   refine any_R 1 (by kernel_rfl) (fun _ hS_ => runs_loadAgg (ad := ⟨b4, 0, none⟩) (cs := [(.int .i64 gw), (.int .i64 gi), (.int .i64 gb)]) (by kernel_rfl) (cells_sub (hS_.heapAt 1 rfl) rfl)) hs39 ?_
   refine any_val (v := (.pointer (some ⟨b4, 2, none⟩))) (v' := (.pointer (some ⟨b4, 2, none⟩))) 3 (by kernel_rfl) (fun _ => by kernel_rfl) rfl hs39 ?_
   refine any_R 4 (by kernel_rfl) (fun _ hS_ => runs_load (ad := ⟨b4, 2, none⟩) (v := (.int .i64 gb)) (by kernel_rfl) (hS_.cellAt 1 rfl rfl)) hs39 ?_
   refine any_step 2 (by kernel_rfl) (by kernel_rfl) ?_
   refine zC00 hs39 (lmap7_spec (gw := gw) (gi := gi) (gb := gb) B _) fun w40 hs42 => ?_
   refine ops_done (by kernel_rfl) ⟨hs42, ?_⟩
   refine any_step 5 (by kernel_rfl) (by kernel_rfl) ?_
   have h43 : (img.length : Int) ≤ 1000000000000 := by first | omega | (exact absurd hm (by assumption))
   have h44 : (0 ≤ ((placeOf 7 gw gi gb 0) : Int) ∧ ((placeOf 7 gw gi gb 0) : Int) < (img.length : Int)) ∧ (1 ≤ (gb : Int) ∧ (gb : Int) ≤ 1000000000000) ∧ ((gb : Int) - 1) / 64 < (img.length : Int) - ((placeOf 7 gw gi gb 0) : Int) := by first | omega | (exact absurd hm (by assumption))
   refine ops_call0 hs42 (by kernel_rfl) (of_ok (hv := (viewAt_old hs42 hv)) (hz := h43) (ho := h44) B _) ?_
   rintro _ _ w46 ⟨b45, rfl, rfl⟩ hs47
   have hs48 := St.ap1 hs47
   have hs49 := St.f2 hs48
   have hs50 := St.f2 hs49
   have hs51 := St.tk2 hs50
   refine ops_done (by kernel_rfl) ⟨hs51, ?_⟩
   refine any_val (v := (.tuple #[(.pointer (some ⟨b45, 0, none⟩)), (.int .i64 0)])) (v' := (.tuple #[(.pointer (some ⟨b45, 0, none⟩)), (.int .i64 0)])) 6 (by kernel_rfl) (fun _ => by kernel_rfl) rfl hs51 ?_
   refine any_val (v := (.pointer (some ⟨b45, 0, none⟩))) (v' := (.pointer (some ⟨b45, 0, none⟩))) 7 (by kernel_rfl) (fun _ => by kernel_rfl) rfl hs51 ?_
   refine any_val (v := (.int .i64 0)) (v' := (.int .i64 0)) 8 (by kernel_rfl) (fun _ => by kernel_rfl) rfl hs51 ?_
   refine any_val (v := (.pointer (some ⟨b45, 0, none⟩))) (v' := (.pointer (some ⟨b45, 0, none⟩))) 9 (by kernel_rfl) (fun _ => by kernel_rfl) rfl hs51 ?_
   refine any_val (v := (.int .i64 0)) (v' := (.int .i64 0)) 10 (by kernel_rfl) (fun _ => by kernel_rfl) rfl hs51 ?_
   refine any_done (by kernel_rfl) ?_
   refine hK38 _ _ ?_
   refine W.seq fun K52 hK52 => ?_
   refine W.sr fun K53 hK53 => ?_
   refine zE 2 (hK53 _ _ ?_)
   refine W.cond_false false (by kernel_rfl) rfl ?_
   refine W.skip ?_
   refine hK52 _ _ ?_
   refine W.sr fun K54 hK54 => ?_
   refine zR 1 ?_
   refine ops_R (runs_loadAgg (ad := ⟨b4, 0, none⟩) (cs := [(.int .i64 gw), (.int .i64 gi), (.int .i64 gb)]) (by kernel_rfl) (cells_sub (hs48.heapAt 2 rfl) rfl)) ?_
   refine zR 2 ?_
   refine zL ⟨b4, 1, none⟩ (.int .i64 gi) (hs48.cellAt 2 rfl rfl) ?_
   refine zR 3 ?_
   refine zL ⟨b4, 2, none⟩ (.int .i64 gb) (hs48.cellAt 2 rfl rfl) ?_
   refine zR 2 ?_
   refine zN [(.pointer (some ⟨vb, 0, none⟩)), (.int .i64 gw), (.int .i64 gi), (.int .i64 gb), (.pointer (some ⟨b30, 0, none⟩)), (.int .i64 gi), (.pointer (some ⟨b45, 0, none⟩)), (.int .i64 gb)] 208 hs48 fun b57 w55 hs56 => ?_
   refine zE 2 (hK54 _ _ ?_)
   refine W.ret ?_
   have hs58 := St.f1 hs56
   have hs59 := St.f2 hs58
   have hs60 := St.f2 hs59
   have hs61 := St.tk3 hs60
   refine ret_of (.tuple #[(.pointer (some ⟨b57, 0, none⟩)), (.int .i64 0)]) (by kernel_rfl) ⟨_, ⟨b57, b30, b45, rfl, rfl⟩, hs61⟩

theorem anew_err {vb : Nat} {img : List Int} {l : List (Int × Int)} {gw gi gb : Int} (B : Nat) (w : World) (hv : ViewAt (ptr vb) img l w) (hz : (img.length : Int) ≤ 1000000000000) (hN : ¬ (May gw gi gb ∧ wordsOf gw gi gb ≤ (img.length : Int))) : Spec Tryz.prog 115 #[(.pointer (some ⟨vb, 0, none⟩)), (.agg #[(.int .i64 gw), (.int .i64 gi), (.int .i64 gb)])] B w [] (fun v H' => v = .tuple #[.pointer none, .int .i64 (if May gw gi gb then 8 else 1)] ∧ H' = []) := by
 refine spec_Q Tryz.func115 rfl fun hs => ?_
 refine W.sr fun K1 hK1 => ?_
 refine zN [(.int .i64 gw), (.int .i64 gi), (.int .i64 gb)] 31 hs fun b4 w2 hs3 => ?_
 refine zE 2 (hK1 _ _ ?_)
 refine W.seq fun K5 hK5 => ?_
 refine W.block ?_
 refine W.sr fun K6 hK6 => ?_
 refine zE 3 (hK6 _ _ ?_)
 refine W.cond_false false (by kernel_rfl) rfl ?_
 refine W.sr fun K7 hK7 => ?_
 refine ops_R (runs_loadAgg (ad := ⟨b4, 0, none⟩) (cs := [(.int .i64 gw), (.int .i64 gi), (.int .i64 gb)]) (by kernel_rfl) (cells_sub (hs3.heapAt 0 rfl) rfl)) ?_
 refine zC00 hs3 (may_spec (gw := gw) (gi := gi) (gb := gb) B _) fun w8 hs10 => ?_
 refine zE 2 (hK7 _ _ ?_)
 refine W.cond (!(decide (May gw gi gb))) (by kernel_rfl) (fun h11 => ?_) (fun h11 => ?_)
 ·
  have h11p : ¬ (May gw gi gb) := of_decide_eq_false (bnot_true h11)
  refine W.sr fun K12 hK12 => ?_
  refine zE 2 (hK12 _ _ ?_)
  refine W.ret (ret_block (ret_seq ?_))
  have hs13 := St.tk0 hs10
  refine ret_of (.tuple #[(.pointer none), (.int .i64 1)]) (by kernel_rfl) ⟨_, ⟨congrArg (fun z => Value.tuple #[.pointer none, .int .i64 z]) (if_neg (by assumption)).symm, rfl⟩, hs13⟩
 ·
  have h11p : May gw gi gb := of_decide_eq_true (bnot_false h11)
  refine W.seq fun K14 hK14 => ?_
  have hs15 := hs10.drew
  refine W.regionD [(0, 0), (1, 1), (0, 0), (6, 4), (10, 10), (24, 16)] (fun w_ => St B w [] w_ [blk b4 (.cells [(.int .i64 gw), (.int .i64 gi), (.int .i64 gb)].toArray 31 (0, 0))]) (by kernel_rfl) hs15 ?_
  refine any_val (v := (.pointer (some ⟨vb, 0, none⟩))) (v' := (.pointer (some ⟨vb, 0, none⟩))) 0 (by kernel_rfl) (fun _ => by kernel_rfl) rfl hs15 ?_
  refine any_R 2 (by kernel_rfl) (fun _ hS_ => runs_loadAgg (ad := ⟨b4, 0, none⟩) (cs := [(.int .i64 gw), (.int .i64 gi), (.int .i64 gb)]) (by kernel_rfl) (cells_sub (hS_.heapAt 0 rfl) rfl)) hs15 ?_
  refine any_step 1 (by kernel_rfl) (by kernel_rfl) ?_
  refine zC00 hs15 (len_spec (hv := (viewAt_old hs15 hv)) B _) fun w16 hs18 => ?_
  refine ops_done (by kernel_rfl) ⟨hs18, ?_⟩
  refine any_step 3 (by kernel_rfl) (by kernel_rfl) ?_
  refine zC00 hs18 (lwords_spec (gw := gw) (gi := gi) (gb := gb) B _) fun w19 hs21 => ?_
  refine ops_done (by kernel_rfl) ⟨hs21, ?_⟩
  refine any_val (v := (.bool (decide ((img.length : Int) < (wordsOf gw gi gb))))) (v' := (.bool (decide ((img.length : Int) < (wordsOf gw gi gb))))) 4 (by kernel_rfl) (fun _ => by kernel_rfl) rfl hs21 ?_
  refine any_val (v := (.bool (decide ((img.length : Int) < (wordsOf gw gi gb))))) (v' := (.bool (decide ((img.length : Int) < (wordsOf gw gi gb))))) 5 (by kernel_rfl) (fun _ => by kernel_rfl) rfl hs21 ?_
  refine any_done (by kernel_rfl) ?_
  refine hK14 _ _ ?_
  refine W.cond (decide ((img.length : Int) < (wordsOf gw gi gb))) (by kernel_rfl) (fun h22 => ?_) (fun h22 => ?_)
  ·
   have h22p := of_decide_eq_true h22
   refine W.sr fun K23 hK23 => ?_
   refine zE 2 (hK23 _ _ ?_)
   refine W.ret (ret_block (ret_seq ?_))
   have hs24 := St.tk0 hs21
   refine ret_of (.tuple #[(.pointer none), (.int .i64 8)]) (by kernel_rfl) ⟨_, ⟨congrArg (fun z => Value.tuple #[.pointer none, .int .i64 z]) (if_pos (by assumption)).symm, rfl⟩, hs24⟩
  ·
   have h22p := of_decide_eq_false h22
   refine W.skip ?_
   refine normal_block ?_
   refine hK5 _ _ ?_
   refine W.seq fun K25 hK25 => ?_
   have hs26 := hs21.drew
   refine W.regionD [(0, 0), (0, 0), (2, 2), (0, 0), (8, 8), (21, 21), (32, 32), (64, 64), (64, 64), (255, 128), (1023, 256)] (fun w_ => St B w [] w_ [blk b4 (.cells [(.int .i64 gw), (.int .i64 gi), (.int .i64 gb)].toArray 31 (0, 0))]) (by kernel_rfl) hs26 ?_
   refine any_val (v := (.pointer (some ⟨vb, 0, none⟩))) (v' := (.pointer (some ⟨vb, 0, none⟩))) 0 (by kernel_rfl) (fun _ => by kernel_rfl) rfl hs26 ?_
   refine any_R 1 (by kernel_rfl) (fun _ hS_ => runs_loadAgg (ad := ⟨b4, 0, none⟩) (cs := [(.int .i64 gw), (.int .i64 gi), (.int .i64 gb)]) (by kernel_rfl) (cells_sub (hS_.heapAt 0 rfl) rfl)) hs26 ?_
   refine any_val (v := (.pointer (some ⟨b4, 1, none⟩))) (v' := (.pointer (some ⟨b4, 1, none⟩))) 3 (by kernel_rfl) (fun _ => by kernel_rfl) rfl hs26 ?_
   refine any_R 4 (by kernel_rfl) (fun _ hS_ => runs_load (ad := ⟨b4, 1, none⟩) (v := (.int .i64 gi)) (by kernel_rfl) (hS_.cellAt 0 rfl rfl)) hs26 ?_
   refine any_step 2 (by kernel_rfl) (by kernel_rfl) ?_
   refine zC00 hs26 (lmap6_spec (gw := gw) (gi := gi) (gb := gb) B _) fun w27 hs29 => ?_
   refine ops_done (by kernel_rfl) ⟨hs29, ?_⟩
   refine any_step 5 (by kernel_rfl) (by kernel_rfl) ?_
   have h30 : (img.length : Int) ≤ 1000000000000 := by first | omega | (exact absurd ⟨by assumption, by omega⟩ hN)
   have h31 : (0 ≤ ((placeOf 6 gw gi gb 0) : Int) ∧ ((placeOf 6 gw gi gb 0) : Int) < (img.length : Int)) ∧ (1 ≤ (gi : Int) ∧ (gi : Int) ≤ 1000000000000) ∧ ((gi : Int) - 1) / 64 < (img.length : Int) - ((placeOf 6 gw gi gb 0) : Int) := by first | omega | (exact absurd ⟨by assumption, by omega⟩ hN)
   refine ops_call0 hs29 (by kernel_rfl) (of_ok (hv := (viewAt_old hs29 hv)) (hz := h30) (ho := h31) B _) ?_
   rintro _ _ w33 ⟨b32, rfl, rfl⟩ hs34
   have hs35 := St.ap1 hs34
   have hs36 := St.f1 hs35
   have hs37 := St.tk1 hs36
   refine ops_done (by kernel_rfl) ⟨hs37, ?_⟩
   refine any_val (v := (.tuple #[(.pointer (some ⟨b32, 0, none⟩)), (.int .i64 0)])) (v' := (.tuple #[(.pointer (some ⟨b32, 0, none⟩)), (.int .i64 0)])) 6 (by kernel_rfl) (fun _ => by kernel_rfl) rfl hs37 ?_
   refine any_val (v := (.pointer (some ⟨b32, 0, none⟩))) (v' := (.pointer (some ⟨b32, 0, none⟩))) 7 (by kernel_rfl) (fun _ => by kernel_rfl) rfl hs37 ?_
   refine any_val (v := (.int .i64 0)) (v' := (.int .i64 0)) 8 (by kernel_rfl) (fun _ => by kernel_rfl) rfl hs37 ?_
   refine any_val (v := (.pointer (some ⟨b32, 0, none⟩))) (v' := (.pointer (some ⟨b32, 0, none⟩))) 9 (by kernel_rfl) (fun _ => by kernel_rfl) rfl hs37 ?_
   refine any_val (v := (.int .i64 0)) (v' := (.int .i64 0)) 10 (by kernel_rfl) (fun _ => by kernel_rfl) rfl hs37 ?_
   refine any_done (by kernel_rfl) ?_
   refine hK25 _ _ ?_
   refine W.seq fun K38 hK38 => ?_
   refine W.sr fun K39 hK39 => ?_
   refine zE 2 (hK39 _ _ ?_)
   refine W.cond_false false (by kernel_rfl) rfl ?_
   refine W.skip ?_
   refine hK38 _ _ ?_
   refine W.seq fun K40 hK40 => ?_
   have hs41 := hs35.drew
   refine W.regionD [(0, 0), (0, 0), (2, 2), (0, 0), (8, 8), (21, 21), (32, 32), (64, 64), (64, 64), (255, 128), (1023, 256)] (fun w_ => St B w [] w_ [blk b32 (.cells [(.pointer (some ⟨vb, 0, none⟩)), (.int .i64 (placeOf 6 gw gi gb 0)), (.int .i64 gi)].toArray 213 (0, 0)), blk b4 (.cells [(.int .i64 gw), (.int .i64 gi), (.int .i64 gb)].toArray 31 (0, 0))]) (by kernel_rfl) hs41 ?_
   refine any_val (v := (.pointer (some ⟨vb, 0, none⟩))) (v' := (.pointer (some ⟨vb, 0, none⟩))) 0 (by kernel_rfl) (fun _ => by kernel_rfl) rfl hs41 ?_
   refine any_R 1 (by kernel_rfl) (fun _ hS_ => runs_loadAgg (ad := ⟨b4, 0, none⟩) (cs := [(.int .i64 gw), (.int .i64 gi), (.int .i64 gb)]) (by kernel_rfl) (cells_sub (hS_.heapAt 1 rfl) rfl)) hs41 ?_
   refine any_val (v := (.pointer (some ⟨b4, 2, none⟩))) (v' := (.pointer (some ⟨b4, 2, none⟩))) 3 (by kernel_rfl) (fun _ => by kernel_rfl) rfl hs41 ?_
   refine any_R 4 (by kernel_rfl) (fun _ hS_ => runs_load (ad := ⟨b4, 2, none⟩) (v := (.int .i64 gb)) (by kernel_rfl) (hS_.cellAt 1 rfl rfl)) hs41 ?_
   refine any_step 2 (by kernel_rfl) (by kernel_rfl) ?_
   refine zC00 hs41 (lmap7_spec (gw := gw) (gi := gi) (gb := gb) B _) fun w42 hs44 => ?_
   refine ops_done (by kernel_rfl) ⟨hs44, ?_⟩
   refine any_step 5 (by kernel_rfl) (by kernel_rfl) ?_
   have h45 : (img.length : Int) ≤ 1000000000000 := by first | omega | (exact absurd ⟨by assumption, by omega⟩ hN)
   have h46 : (0 ≤ ((placeOf 7 gw gi gb 0) : Int) ∧ ((placeOf 7 gw gi gb 0) : Int) < (img.length : Int)) ∧ (1 ≤ (gb : Int) ∧ (gb : Int) ≤ 1000000000000) ∧ ((gb : Int) - 1) / 64 < (img.length : Int) - ((placeOf 7 gw gi gb 0) : Int) := by first | omega | (exact absurd ⟨by assumption, by omega⟩ hN)
   refine ops_call0 hs44 (by kernel_rfl) (of_ok (hv := (viewAt_old hs44 hv)) (hz := h45) (ho := h46) B _) ?_
   rintro _ _ w48 ⟨b47, rfl, rfl⟩ hs49
   have hs50 := St.ap1 hs49
   have hs51 := St.f2 hs50
   have hs52 := St.f2 hs51
   have hs53 := St.tk2 hs52
   refine ops_done (by kernel_rfl) ⟨hs53, ?_⟩
   refine any_val (v := (.tuple #[(.pointer (some ⟨b47, 0, none⟩)), (.int .i64 0)])) (v' := (.tuple #[(.pointer (some ⟨b47, 0, none⟩)), (.int .i64 0)])) 6 (by kernel_rfl) (fun _ => by kernel_rfl) rfl hs53 ?_
   refine any_val (v := (.pointer (some ⟨b47, 0, none⟩))) (v' := (.pointer (some ⟨b47, 0, none⟩))) 7 (by kernel_rfl) (fun _ => by kernel_rfl) rfl hs53 ?_
   refine any_val (v := (.int .i64 0)) (v' := (.int .i64 0)) 8 (by kernel_rfl) (fun _ => by kernel_rfl) rfl hs53 ?_
   refine any_val (v := (.pointer (some ⟨b47, 0, none⟩))) (v' := (.pointer (some ⟨b47, 0, none⟩))) 9 (by kernel_rfl) (fun _ => by kernel_rfl) rfl hs53 ?_
   refine any_val (v := (.int .i64 0)) (v' := (.int .i64 0)) 10 (by kernel_rfl) (fun _ => by kernel_rfl) rfl hs53 ?_
   refine any_done (by kernel_rfl) ?_
   refine hK40 _ _ ?_
   refine W.seq fun K54 hK54 => ?_
   refine W.sr fun K55 hK55 => ?_
   refine zE 2 (hK55 _ _ ?_)
   refine W.cond_false false (by kernel_rfl) rfl ?_
   refine W.skip ?_
   refine hK54 _ _ ?_
   refine W.sr fun K56 hK56 => ?_
   refine zR 1 ?_
   refine ops_R (runs_loadAgg (ad := ⟨b4, 0, none⟩) (cs := [(.int .i64 gw), (.int .i64 gi), (.int .i64 gb)]) (by kernel_rfl) (cells_sub (hs50.heapAt 2 rfl) rfl)) ?_
   refine zR 2 ?_
   refine zL ⟨b4, 1, none⟩ (.int .i64 gi) (hs50.cellAt 2 rfl rfl) ?_
   refine zR 3 ?_
   refine zL ⟨b4, 2, none⟩ (.int .i64 gb) (hs50.cellAt 2 rfl rfl) ?_
   refine zR 2 ?_
   refine zN [(.pointer (some ⟨vb, 0, none⟩)), (.int .i64 gw), (.int .i64 gi), (.int .i64 gb), (.pointer (some ⟨b32, 0, none⟩)), (.int .i64 gi), (.pointer (some ⟨b47, 0, none⟩)), (.int .i64 gb)] 208 hs50 fun b59 w57 hs58 => ?_
   refine zE 2 (hK56 _ _ ?_)
   refine W.ret ?_
   exfalso
   first | omega | (exact hN ⟨by assumption, by omega⟩)

end Go.Proofs.YtmmclabkkigiaaaGreatDoor

set_option linter.unusedVariables false
set_option maxRecDepth 20000
namespace Go.Proofs.YtmmclabkkigiaaaGreatDoor
open Go Go.RowKit
set_option linter.unusedSimpArgs false
set_option linter.unusedVariables false


def atakeb_M (img : List Int) (l : List (Int × Int)) (gw : Int) (gi : Int) (gb : Int) (ba : Int) : Option (Int × Int × List (Int × Int)) :=
 (atake1_M img l gw gi gb ba gb).bind fun r14 =>
some (r14.1, r14.2.1, r14.2.2)

theorem atakeb_walk {img : List Int} {l : List (Int × Int)} {gw : Int} {gi : Int} {gb : Int} {ia : Int} {ba : Int} {ab ib bb vb : Nat} {r : Int × Int × List (Int × Int)} (B : Nat) (w : World) (hG : 1 < B) (hT : CellsAt (some ⟨1, 0, none⟩) tab8 w) (hm : atakeb_M img l gw gi gb ba = some r) : Spec Tryz.prog 139 #[(.pointer (some ⟨ab, 0, none⟩))] B w [blk ab (.cells [(.pointer (some ⟨vb, 0, none⟩)), (.int .i64 gw), (.int .i64 gi), (.int .i64 gb), (.pointer (some ⟨ib, 0, none⟩)), (.int .i64 gi), (.pointer (some ⟨bb, 0, none⟩)), (.int .i64 gb)].toArray 208 (0, 0)), blk ib (.cells [(.pointer (some ⟨vb, 0, none⟩)), (.int .i64 ia), (.int .i64 gi)].toArray 213 (0, 0)), blk bb (.cells [(.pointer (some ⟨vb, 0, none⟩)), (.int .i64 ba), (.int .i64 gb)].toArray 213 (0, 0)), viewA (ptr vb) img l] (fun v H' => v = .tuple #[.int .i64 r.1, .int .i64 r.2.1] ∧ H' = [blk ab (.cells [(.pointer (some ⟨vb, 0, none⟩)), (.int .i64 gw), (.int .i64 gi), (.int .i64 gb), (.pointer (some ⟨ib, 0, none⟩)), (.int .i64 gi), (.pointer (some ⟨bb, 0, none⟩)), (.int .i64 gb)].toArray 208 (0, 0)), blk ib (.cells [(.pointer (some ⟨vb, 0, none⟩)), (.int .i64 ia), (.int .i64 gi)].toArray 213 (0, 0)), blk bb (.cells [(.pointer (some ⟨vb, 0, none⟩)), (.int .i64 ba), (.int .i64 gb)].toArray 213 (0, 0)), viewA (ptr vb) img r.2.2]) := by
 refine spec_W Tryz.func139 rfl fun l0 hs => ?_
 unfold atakeb_M at hm
 refine W.sr fun K1 hK1 => ?_
 refine zN [(.pointer (some ⟨ab, 0, none⟩))] 192 hs fun b4 w2 hs3 => ?_
 refine zE 2 (hK1 _ _ ?_)
 refine W.seq fun K5 hK5 => ?_
 refine W.sr fun K6 hK6 => ?_
 refine zL ⟨b4, 0, none⟩ (.pointer (some ⟨ab, 0, none⟩)) (hs3.cellAt 0 rfl rfl) ?_
 refine zE 1 (hK6 _ _ ?_)
 refine W.cond_false false (by kernel_rfl) rfl ?_
 refine W.skip ?_
 refine hK5 _ _ ?_
 refine W.seq fun K7 hK7 => ?_
 have hs8 := hs3.drew
 have hs9 := St.f3 hs8
 have hs10 := St.f3 hs9
 have hs11 := St.f3 hs10
 have hs12 := St.f3 hs11
 have hs13 := St.tk4 hs12
 refine W.regionD [(0, 0), (0, 0), (2, 2), (4, 4), (8, 8), (0, 0), (49, 49), (64, 64), (64, 64), (511, 128), (1023, 256)] (fun w_ => St B w l0 w_ [blk b4 (.cells [(.pointer (some ⟨ab, 0, none⟩))].toArray 192 (0, 0)), blk ab (.cells [(.pointer (some ⟨vb, 0, none⟩)), (.int .i64 gw), (.int .i64 gi), (.int .i64 gb), (.pointer (some ⟨ib, 0, none⟩)), (.int .i64 gi), (.pointer (some ⟨bb, 0, none⟩)), (.int .i64 gb)].toArray 208 (0, 0)), blk ib (.cells [(.pointer (some ⟨vb, 0, none⟩)), (.int .i64 ia), (.int .i64 gi)].toArray 213 (0, 0)), blk bb (.cells [(.pointer (some ⟨vb, 0, none⟩)), (.int .i64 ba), (.int .i64 gb)].toArray 213 (0, 0))]) (by kernel_rfl) hs13 ?_
 refine any_R 0 (by kernel_rfl) (fun _ hS_ => runs_load (ad := ⟨b4, 0, none⟩) (v := (.pointer (some ⟨ab, 0, none⟩))) (by kernel_rfl) (hS_.cellAt 0 rfl rfl)) hs13 ?_
 refine any_R 1 (by kernel_rfl) (fun _ hS_ => runs_load (ad := ⟨b4, 0, none⟩) (v := (.pointer (some ⟨ab, 0, none⟩))) (by kernel_rfl) (hS_.cellAt 0 rfl rfl)) hs13 ?_
 refine any_val (v := (.pointer (some ⟨ab, 0, none⟩))) (v' := (.pointer (some ⟨ab, 0, none⟩))) 2 (by kernel_rfl) (fun _ => by kernel_rfl) rfl hs13 ?_
 refine any_val (v := (.pointer (some ⟨ab, 6, none⟩))) (v' := (.pointer (some ⟨ab, 6, none⟩))) 3 (by kernel_rfl) (fun _ => by kernel_rfl) rfl hs13 ?_
 refine any_R 4 (by kernel_rfl) (fun _ hS_ => runs_loadAgg (ad := ⟨ab, 6, none⟩) (cs := [(.pointer (some ⟨bb, 0, none⟩)), (.int .i64 gb)]) (by kernel_rfl) (cells_sub (hS_.heapAt 1 rfl) rfl)) hs13 ?_
 refine any_val (v := (.func (.func 147) #[] #[(.pointer (some ⟨b4, 0, none⟩))])) (v' := (.func (.func 147) #[] #[(.pointer (some ⟨b4, 0, none⟩))])) 5 (by kernel_rfl) (fun _ => by kernel_rfl) rfl hs13 ?_
 refine any_step 6 (by kernel_rfl) (by kernel_rfl) ?_
 obtain ⟨r14, h15, hm⟩ := bind_some hm
 have hs16 := St.f4 hs8
 have hs17 := St.f1 hs16
 have hs18 := St.f4 hs17
 have hs19 := St.f3 hs18
 refine ops_call4 hs19 (by kernel_rfl) (atake1_walk (ab := ab) (ib := ib) (bb := bb) (vb := vb) (mb := bb) (img := img) (l := l) (gw := gw) (gi := gi) (gb := gb) (at_ := ba) (many := gb) (pm := gb) (cb := b4) (hG := hG) (hT := (hs8.oldCellsB hG hT)) (hm := h15) B _) ?_
 rintro _ _ w20 ⟨rfl, rfl⟩ hs21
 have hs22 := St.ap4 hs21
 have hs23 := St.f1 hs22
 have hs24 := St.f4 hs23
 have hs25 := St.f2 hs24
 have hs26 := St.f3 hs25
 have hs27 := St.tk4 hs26
 refine ops_done (by kernel_rfl) ⟨hs27, ?_⟩
 refine any_val (v := (.int .i64 r14.1)) (v' := (.int .i64 r14.1)) 7 (by kernel_rfl) (fun _ => by kernel_rfl) rfl hs27 ?_
 refine any_val (v := (.int .i64 r14.2.1)) (v' := (.int .i64 r14.2.1)) 8 (by kernel_rfl) (fun _ => by kernel_rfl) rfl hs27 ?_
 refine any_val (v := (.int .i64 r14.1)) (v' := (.int .i64 r14.1)) 9 (by kernel_rfl) (fun _ => by kernel_rfl) rfl hs27 ?_
 refine any_val (v := (.int .i64 r14.2.1)) (v' := (.int .i64 r14.2.1)) 10 (by kernel_rfl) (fun _ => by kernel_rfl) rfl hs27 ?_
 refine any_done (by kernel_rfl) ?_
 refine hK7 _ _ ?_
 refine W.ret ?_
 obtain rfl := some_inj hm
 have hs28 := St.f3 hs22
 have hs29 := St.f2 hs28
 have hs30 := St.f4 hs29
 have hs31 := St.f3 hs30
 have hs32 := St.tk4 hs31
 refine ret_of (.tuple #[(.int .i64 r14.1), (.int .i64 r14.2.1)]) (by kernel_rfl) ⟨_, ⟨rfl, rfl⟩, hs32⟩


def agiveb_M (img : List Int) (l : List (Int × Int)) (gb : Int) (ba : Int) (n_ : Int) : Option (Int × List (Int × Int)) :=
 (pgive_M img l ba gb gb n_).bind fun r5 =>
some (r5.1, r5.2)

theorem agiveb_walk {img : List Int} {l : List (Int × Int)} {gw : Int} {gi : Int} {gb : Int} {ia : Int} {ba : Int} {n_ : Int} {ab ib bb vb : Nat} {r : Int × List (Int × Int)} (B : Nat) (w : World) (hm : agiveb_M img l gb ba n_ = some r) : Spec Tryz.prog 121 #[(.pointer (some ⟨ab, 0, none⟩)), (.int .i64 n_)] B w [blk ab (.cells [(.pointer (some ⟨vb, 0, none⟩)), (.int .i64 gw), (.int .i64 gi), (.int .i64 gb), (.pointer (some ⟨ib, 0, none⟩)), (.int .i64 gi), (.pointer (some ⟨bb, 0, none⟩)), (.int .i64 gb)].toArray 208 (0, 0)), blk ib (.cells [(.pointer (some ⟨vb, 0, none⟩)), (.int .i64 ia), (.int .i64 gi)].toArray 213 (0, 0)), blk bb (.cells [(.pointer (some ⟨vb, 0, none⟩)), (.int .i64 ba), (.int .i64 gb)].toArray 213 (0, 0)), viewA (ptr vb) img l] (fun v H' => v = .int .i64 r.1 ∧ H' = [blk ab (.cells [(.pointer (some ⟨vb, 0, none⟩)), (.int .i64 gw), (.int .i64 gi), (.int .i64 gb), (.pointer (some ⟨ib, 0, none⟩)), (.int .i64 gi), (.pointer (some ⟨bb, 0, none⟩)), (.int .i64 gb)].toArray 208 (0, 0)), blk ib (.cells [(.pointer (some ⟨vb, 0, none⟩)), (.int .i64 ia), (.int .i64 gi)].toArray 213 (0, 0)), blk bb (.cells [(.pointer (some ⟨vb, 0, none⟩)), (.int .i64 ba), (.int .i64 gb)].toArray 213 (0, 0)), viewA (ptr vb) img r.2]) := by
 refine spec_W Tryz.func121 rfl fun l0 hs => ?_
 unfold agiveb_M at hm
 refine W.sr fun K1 hK1 => ?_
 refine zE 1 (hK1 _ _ ?_)
 refine W.seq fun K2 hK2 => ?_
 refine W.sr fun K3 hK3 => ?_
 refine zE 2 (hK3 _ _ ?_)
 refine W.cond_false false (by kernel_rfl) rfl ?_
 refine W.skip ?_
 refine hK2 _ _ ?_
 refine W.sr fun K4 hK4 => ?_
 refine zR 3 ?_
 refine ops_R (runs_loadAgg (ad := ⟨ab, 6, none⟩) (cs := [(.pointer (some ⟨bb, 0, none⟩)), (.int .i64 gb)]) (by kernel_rfl) (cells_sub (hs.heapAt 0 rfl) rfl)) ?_
 refine zR 1 ?_
 obtain ⟨r5, h6, hm⟩ := bind_some hm
 have hs7 := St.f3 hs
 have hs8 := St.f3 hs7
 refine zC22 hs8 (pgive_walk (hm := h6) B _) fun w9 hs11 => ?_
 refine zE 1 (hK4 _ _ ?_)
 refine W.ret ?_
 obtain rfl := some_inj hm
 have hs12 := St.f1 hs11
 have hs13 := St.f1 hs12
 have hs14 := St.f3 hs13
 have hs15 := St.f3 hs14
 refine ret_of (.int .i64 r5.1) (by kernel_rfl) ⟨_, ⟨rfl, rfl⟩, hs15⟩

def afree_M (img : List Int) (l : List (Int × Int)) (gi : Int) (gb : Int) (ia : Int) (ba : Int) : Option (Int × Int) :=
 (pfree_M img l ia gi gi).bind fun r6 =>
(pfree_M img l ba gb gb).bind fun r11 =>
some (r6, r11)

theorem afree_walk {img : List Int} {l : List (Int × Int)} {gw : Int} {gi : Int} {gb : Int} {ia : Int} {ba : Int} {ab ib bb vb : Nat} {r : Int × Int} (B : Nat) (w : World) (hab : w.heap[ab]? = some (.cells [(.pointer (some ⟨vb, 0, none⟩)), (.int .i64 gw), (.int .i64 gi), (.int .i64 gb), (.pointer (some ⟨ib, 0, none⟩)), (.int .i64 gi), (.pointer (some ⟨bb, 0, none⟩)), (.int .i64 gb)].toArray 208 (0, 0))) (hib : w.heap[ib]? = some (.cells [(.pointer (some ⟨vb, 0, none⟩)), (.int .i64 ia), (.int .i64 gi)].toArray 213 (0, 0))) (hbb : w.heap[bb]? = some (.cells [(.pointer (some ⟨vb, 0, none⟩)), (.int .i64 ba), (.int .i64 gb)].toArray 213 (0, 0))) (hv : ViewAt (ptr vb) img l w) (hm : afree_M img l gi gb ia ba = some r) : Spec Tryz.prog 116 #[(.pointer (some ⟨ab, 0, none⟩))] B w [] (fun v H' => v = .tuple #[.int .i64 r.1, .int .i64 r.2] ∧ H' = []) := by
 refine spec_Q Tryz.func116 rfl fun hs => ?_
 unfold afree_M at hm
 refine W.sr fun K1 hK1 => ?_
 refine zE 2 (hK1 _ _ ?_)
 refine W.seq fun K2 hK2 => ?_
 refine W.sr fun K3 hK3 => ?_
 refine zE 2 (hK3 _ _ ?_)
 refine W.cond_false false (by kernel_rfl) rfl ?_
 refine W.skip ?_
 refine hK2 _ _ ?_
 refine W.seq fun K4 hK4 => ?_
 have hs5 := hs.drew
 refine W.regionD [(0, 0), (1, 1), (2, 2), (4, 4), (8, 8), (0, 0), (32, 32), (64, 64), (128, 128), (272, 256), (543, 16), (2047, 512)] (fun w_ => St B w [] w_ []) (by kernel_rfl) hs5 ?_
 refine any_val (v := (.pointer (some ⟨ab, 0, none⟩))) (v' := (.pointer (some ⟨ab, 0, none⟩))) 0 (by kernel_rfl) (fun _ => by kernel_rfl) rfl hs5 ?_
 refine any_val (v := (.pointer (some ⟨ab, 0, none⟩))) (v' := (.pointer (some ⟨ab, 0, none⟩))) 1 (by kernel_rfl) (fun _ => by kernel_rfl) rfl hs5 ?_
 refine any_val (v := (.pointer (some ⟨ab, 4, none⟩))) (v' := (.pointer (some ⟨ab, 4, none⟩))) 2 (by kernel_rfl) (fun _ => by kernel_rfl) rfl hs5 ?_
 refine any_R 3 (by kernel_rfl) (fun _ hS_ => runs_loadAgg (ad := ⟨ab, 4, none⟩) (cs := [(.pointer (some ⟨ib, 0, none⟩)), (.int .i64 gi)]) (by kernel_rfl) (cells_sub (hS_.old hab) rfl)) hs5 ?_
 refine any_val (v := (.pointer (some ⟨ab, 0, none⟩))) (v' := (.pointer (some ⟨ab, 0, none⟩))) 5 (by kernel_rfl) (fun _ => by kernel_rfl) rfl hs5 ?_
 refine any_val (v := (.pointer (some ⟨ab, 0, none⟩))) (v' := (.pointer (some ⟨ab, 0, none⟩))) 6 (by kernel_rfl) (fun _ => by kernel_rfl) rfl hs5 ?_
 refine any_val (v := (.pointer (some ⟨ab, 6, none⟩))) (v' := (.pointer (some ⟨ab, 6, none⟩))) 7 (by kernel_rfl) (fun _ => by kernel_rfl) rfl hs5 ?_
 refine any_R 8 (by kernel_rfl) (fun _ hS_ => runs_loadAgg (ad := ⟨ab, 6, none⟩) (cs := [(.pointer (some ⟨bb, 0, none⟩)), (.int .i64 gb)]) (by kernel_rfl) (cells_sub (hS_.old hab) rfl)) hs5 ?_
 refine any_step 4 (by kernel_rfl) (by kernel_rfl) ?_
 obtain ⟨r6, h7, hm⟩ := bind_some hm
 refine zC00 hs5 (pfree_walk (hmb := (hs5.old hib)) (hv := (viewAt_old hs5 hv)) (hm := h7) B _) fun w8 hs10 => ?_
 refine ops_done (by kernel_rfl) ⟨hs10, ?_⟩
 refine any_step 9 (by kernel_rfl) (by kernel_rfl) ?_
 obtain ⟨r11, h12, hm⟩ := bind_some hm
 refine zC00 hs10 (pfree_walk (hmb := (hs10.old hbb)) (hv := (viewAt_old hs10 hv)) (hm := h12) B _) fun w13 hs15 => ?_
 refine ops_done (by kernel_rfl) ⟨hs15, ?_⟩
 refine any_val (v := (.int .i64 r6)) (v' := (.int .i64 r6)) 10 (by kernel_rfl) (fun _ => by kernel_rfl) rfl hs15 ?_
 refine any_val (v := (.int .i64 r11)) (v' := (.int .i64 r11)) 11 (by kernel_rfl) (fun _ => by kernel_rfl) rfl hs15 ?_
 refine any_done (by kernel_rfl) ?_
 refine hK4 _ _ ?_
 refine W.ret ?_
 obtain rfl := some_inj hm
 refine ret_of (.tuple #[(.int .i64 r6), (.int .i64 r11)]) (by kernel_rfl) ⟨_, ⟨rfl, rfl⟩, hs15⟩



theorem atakeb_nil  (B : Nat) (w : World) : Spec Tryz.prog 139 #[(.pointer none)] B w [] (fun v H' => v = (.tuple #[(.int .i64 0), (.int .i64 2)]) ∧ H' = []) := by
 refine spec_Q Tryz.func139 rfl fun hs => ?_
 refine W.sr fun K1 hK1 => ?_
 refine zN [(.pointer none)] 192 hs fun b4 w2 hs3 => ?_
 refine zE 2 (hK1 _ _ ?_)
 refine W.seq fun K5 hK5 => ?_
 refine W.sr fun K6 hK6 => ?_
 refine zL ⟨b4, 0, none⟩ (.pointer none) (hs3.cellAt 0 rfl rfl) ?_
 refine zE 1 (hK6 _ _ ?_)
 refine W.cond_true true (by kernel_rfl) rfl ?_
 refine W.sr fun K7 hK7 => ?_
 refine zE 2 (hK7 _ _ ?_)
 refine W.ret (ret_seq ?_)
 have hs8 := St.tk0 hs3
 refine ret_of (.tuple #[(.int .i64 0), (.int .i64 2)]) (by kernel_rfl) ⟨_, ⟨rfl, rfl⟩, hs8⟩

theorem afree_nil  (B : Nat) (w : World) : Spec Tryz.prog 116 #[(.pointer none)] B w [] (fun v H' => v = (.tuple #[(.int .i64 0), (.int .i64 0)]) ∧ H' = []) := by
 refine spec_Q Tryz.func116 rfl fun hs => ?_
 refine W.sr fun K1 hK1 => ?_
 refine zE 2 (hK1 _ _ ?_)
 refine W.seq fun K2 hK2 => ?_
 refine W.sr fun K3 hK3 => ?_
 refine zE 2 (hK3 _ _ ?_)
 refine W.cond_true true (by kernel_rfl) rfl ?_
 refine W.sr fun K4 hK4 => ?_
 refine zE 2 (hK4 _ _ ?_)
 refine W.ret (ret_seq ?_)
 refine ret_of (.tuple #[(.int .i64 0), (.int .i64 0)]) (by kernel_rfl) ⟨_, ⟨rfl, rfl⟩, hs⟩


theorem agiveb_nil {n_ : Int} (B : Nat) (w : World) : Spec Tryz.prog 121 #[(.pointer none), (.int .i64 n_)] B w [] (fun v H' => v = (.int .i64 2) ∧ H' = []) := by
 refine spec_Q Tryz.func121 rfl fun hs => ?_
 refine W.sr fun K1 hK1 => ?_
 refine zE 1 (hK1 _ _ ?_)
 refine W.seq fun K2 hK2 => ?_
 refine W.sr fun K3 hK3 => ?_
 refine zE 2 (hK3 _ _ ?_)
 refine W.cond_true true (by kernel_rfl) rfl ?_
 refine W.sr fun K4 hK4 => ?_
 refine zE 1 (hK4 _ _ ?_)
 refine W.ret (ret_seq ?_)
 refine ret_of (.int .i64 2) (by kernel_rfl) ⟨_, ⟨rfl, rfl⟩, hs⟩


end Go.Proofs.YtmmclabkkigiaaaGreatDoor

set_option linter.unusedVariables false
set_option maxRecDepth 20000
set_option maxHeartbeats 2000000
namespace Go.Proofs.YtmmclabkkigiaaaGreatDoor
open Go Go.RowKit
set_option linter.unusedSimpArgs false
set_option linter.unusedVariables false

def bown_M (gw : Int) (gi : Int) (gb : Int) (n_ : Int) (w_ : Int) : Option (Int) :=
 (some (placeOf 8 gw gi gb n_)).bind fun r4 =>
need (-9223372036854775808 ≤ (r4 + w_) ∧ (r4 + w_) ≤ 9223372036854775807) <|
some (r4 + w_)

theorem bown_walk {img : List Int} {l : List (Int × Int)} {gw : Int} {gi : Int} {gb : Int} {n_ : Int} {w_ : Int} {mb vb : Nat} {r : Int} (B : Nat) (w : World) (hmb : w.heap[mb]? = some (.cells [(.pointer (some ⟨vb, 0, none⟩)), (.int .i64 gw), (.int .i64 gi), (.int .i64 gb), (.int .i64 n_)].toArray 164 (0, 0))) (hv : ViewAt (ptr vb) img l w) (hm : bown_M gw gi gb n_ w_ = some r) : Spec Tryz.prog 95 #[(.pointer (some ⟨mb, 0, none⟩)), (.int .i64 w_)] B w [] (fun v H' => v = (.int .i64 r) ∧ H' = []) := by
 refine spec_Q Tryz.func95 rfl fun hs => ?_
 unfold bown_M at hm
 refine W.sr fun K1 hK1 => ?_
 refine zE 1 (hK1 _ _ ?_)
 refine W.seq fun K2 hK2 => ?_
 have hs3 := hs.drew
 refine W.regionD [(0, 0), (1, 1), (2, 2), (4, 4), (0, 0), (16, 16), (32, 32), (64, 64), (136, 136), (0, 0), (768, 768), (2047, 1024)] (fun w_ => St B w [] w_ []) (by kernel_rfl) hs3 ?_
 refine any_val (v := (.pointer (some ⟨mb, 0, none⟩))) (v' := (.pointer (some ⟨mb, 0, none⟩))) 0 (by kernel_rfl) (fun _ => by kernel_rfl) rfl hs3 ?_
 refine any_val (v := (.pointer (some ⟨mb, 0, none⟩))) (v' := (.pointer (some ⟨mb, 0, none⟩))) 1 (by kernel_rfl) (fun _ => by kernel_rfl) rfl hs3 ?_
 refine any_val (v := (.pointer (some ⟨mb, 1, none⟩))) (v' := (.pointer (some ⟨mb, 1, none⟩))) 2 (by kernel_rfl) (fun _ => by kernel_rfl) rfl hs3 ?_
 refine any_R 3 (by kernel_rfl) (fun _ hS_ => runs_loadAgg (ad := ⟨mb, 1, none⟩) (cs := [(.int .i64 gw), (.int .i64 gi), (.int .i64 gb)]) (by kernel_rfl) (cells_sub (hS_.old hmb) rfl)) hs3 ?_
 refine any_val (v := (.pointer (some ⟨mb, 0, none⟩))) (v' := (.pointer (some ⟨mb, 0, none⟩))) 4 (by kernel_rfl) (fun _ => by kernel_rfl) rfl hs3 ?_
 refine any_val (v := (.pointer (some ⟨mb, 0, none⟩))) (v' := (.pointer (some ⟨mb, 0, none⟩))) 5 (by kernel_rfl) (fun _ => by kernel_rfl) rfl hs3 ?_
 refine any_val (v := (.pointer (some ⟨mb, 4, none⟩))) (v' := (.pointer (some ⟨mb, 4, none⟩))) 6 (by kernel_rfl) (fun _ => by kernel_rfl) rfl hs3 ?_
 refine any_R 7 (by kernel_rfl) (fun _ hS_ => runs_load (ad := ⟨mb, 4, none⟩) (v := (.int .i64 n_)) (by kernel_rfl) (cell_of_blk (hS_.old hmb) rfl)) hs3 ?_
 refine any_val (v := (.int .i64 w_)) (v' := (.int .i64 w_)) 9 (by kernel_rfl) (fun _ => by kernel_rfl) rfl hs3 ?_
 refine any_step 8 (by kernel_rfl) (by kernel_rfl) ?_
 obtain ⟨r4, h5, hm⟩ := bind_some hm
 replace h5 := some_inj h5
 refine ops_call0 hs3 (by kernel_rfl) (inodeat_spec (gw := gw) (gi := gi) (gb := gb) (n_ := n_) B _) ?_
 rintro _ _ w6 ⟨hv8, hH9⟩ hs7
 rw [h5] at hv8
 try rw [h5] at hH9
 subst hv8 hH9
 have hs10 := St.ap0 hs7
 refine ops_done (by kernel_rfl) ⟨hs10, ?_⟩
 obtain ⟨h11, hm⟩ := need_some hm
 refine any_val (v := .int .i64 (IntKind.i64.wrap (r4 + w_))) (v' := .int .i64 (r4 + w_)) 10 (by kernel_rfl) (fun _ => by kernel_rfl) (congrArg (Value.int .i64) (wrap_i64 h11.1 h11.2)) hs10 ?_
 refine any_val (v := (.int .i64 (r4 + w_))) (v' := (.int .i64 (r4 + w_))) 11 (by kernel_rfl) (fun _ => by kernel_rfl) rfl hs10 ?_
 refine any_done (by kernel_rfl) ?_
 refine hK2 _ _ ?_
 refine W.ret ?_
 obtain rfl := some_inj hm
 refine ret_of (.int .i64 (r4 + w_)) (by kernel_rfl) ⟨_, ⟨rfl, rfl⟩, hs10⟩

end Go.Proofs.YtmmclabkkigiaaaGreatDoor

set_option linter.unusedVariables false
set_option maxRecDepth 20000
set_option maxHeartbeats 2000000
namespace Go.Proofs.YtmmclabkkigiaaaGreatDoor
open Go Go.RowKit
set_option linter.unusedSimpArgs false
set_option linter.unusedVariables false

def bchain_M (img : List Int) (l : List (Int × Int)) (gw : Int) (gi : Int) (gb : Int) (n_ : Int) : Option (Int) :=
 (bown_M gw gi gb n_ 8).bind fun r4 =>
need (-9223372036854775808 ≤ (vget img l r4) ∧ (vget img l r4) ≤ 9223372036854775807) <|
some (vget img l r4)

theorem bchain_walk {img : List Int} {l : List (Int × Int)} {gw : Int} {gi : Int} {gb : Int} {n_ : Int} {mb vb : Nat} {r : Int} (B : Nat) (w : World) (hmb : w.heap[mb]? = some (.cells [(.pointer (some ⟨vb, 0, none⟩)), (.int .i64 gw), (.int .i64 gi), (.int .i64 gb), (.int .i64 n_)].toArray 164 (0, 0))) (hv : ViewAt (ptr vb) img l w) (hm : bchain_M img l gw gi gb n_ = some r) : Spec Tryz.prog 93 #[(.pointer (some ⟨mb, 0, none⟩))] B w [] (fun v H' => v = (.int .i64 r) ∧ H' = []) := by
 refine spec_Q Tryz.func93 rfl fun hs => ?_
 unfold bchain_M at hm
 refine W.sr fun K1 hK1 => ?_
 refine zE 1 (hK1 _ _ ?_)
 refine W.seq fun K2 hK2 => ?_
 have hs3 := hs.drew
 refine W.regionD [(0, 0), (1, 1), (2, 2), (4, 4), (0, 0), (16, 16), (40, 40), (64, 64), (255, 128)] (fun w_ => St B w [] w_ []) (by kernel_rfl) hs3 ?_
 refine any_val (v := (.pointer (some ⟨mb, 0, none⟩))) (v' := (.pointer (some ⟨mb, 0, none⟩))) 0 (by kernel_rfl) (fun _ => by kernel_rfl) rfl hs3 ?_
 refine any_val (v := (.pointer (some ⟨mb, 0, none⟩))) (v' := (.pointer (some ⟨mb, 0, none⟩))) 1 (by kernel_rfl) (fun _ => by kernel_rfl) rfl hs3 ?_
 refine any_val (v := (.pointer (some ⟨mb, 0, none⟩))) (v' := (.pointer (some ⟨mb, 0, none⟩))) 2 (by kernel_rfl) (fun _ => by kernel_rfl) rfl hs3 ?_
 refine any_R 3 (by kernel_rfl) (fun _ hS_ => runs_load (ad := ⟨mb, 0, none⟩) (v := (.pointer (some ⟨vb, 0, none⟩))) (by kernel_rfl) (cell_of_blk (hS_.old hmb) rfl)) hs3 ?_
 refine any_val (v := (.pointer (some ⟨mb, 0, none⟩))) (v' := (.pointer (some ⟨mb, 0, none⟩))) 4 (by kernel_rfl) (fun _ => by kernel_rfl) rfl hs3 ?_
 refine any_step 5 (by kernel_rfl) (by kernel_rfl) ?_
 obtain ⟨r4, h5, hm⟩ := bind_some hm
 refine zC00 hs3 (bown_walk (w_ := 8) (img := img) (l := l) (gw := gw) (gi := gi) (gb := gb) (n_ := n_) (hmb := (hs3.old hmb)) (hv := (viewAt_old hs3 hv)) (hm := h5) B _) fun w6 hs8 => ?_
 refine ops_done (by kernel_rfl) ⟨hs8, ?_⟩
 refine any_step 6 (by kernel_rfl) (by kernel_rfl) ?_
 refine zC00 hs8 (get_spec (at_ := r4) (hv := (viewAt_old hs8 hv)) B _) fun w9 hs11 => ?_
 refine ops_done (by kernel_rfl) ⟨hs11, ?_⟩
 obtain ⟨h12, hm⟩ := need_some hm
 refine any_val (v := .int .i64 (IntKind.i64.wrap (vget img l r4))) (v' := .int .i64 (vget img l r4)) 7 (by kernel_rfl) (fun _ => by kernel_rfl) (congrArg (Value.int .i64) (wrap_i64 h12.1 h12.2)) hs11 ?_
 refine any_val (v := (.int .i64 (vget img l r4))) (v' := (.int .i64 (vget img l r4))) 8 (by kernel_rfl) (fun _ => by kernel_rfl) rfl hs11 ?_
 refine any_done (by kernel_rfl) ?_
 refine hK2 _ _ ?_
 refine W.ret ?_
 obtain rfl := some_inj hm
 refine ret_of (.int .i64 (vget img l r4)) (by kernel_rfl) ⟨_, ⟨rfl, rfl⟩, hs11⟩

def bdirect_M (gw : Int) (gi : Int) (gb : Int) (n_ : Int) (k_ : Int) : Option (Int × Bool) :=
 need (-9223372036854775808 ≤ (4 + k_) ∧ (4 + k_) ≤ 9223372036854775807) <|
(bown_M gw gi gb n_ (4 + k_)).bind fun r4 =>
some (r4, true)

theorem bdirect_walk {img : List Int} {l : List (Int × Int)} {gw : Int} {gi : Int} {gb : Int} {n_ : Int} {k_ : Int} {mb vb : Nat} {r : Int × Bool} (B : Nat) (w : World) (hmb : w.heap[mb]? = some (.cells [(.pointer (some ⟨vb, 0, none⟩)), (.int .i64 gw), (.int .i64 gi), (.int .i64 gb), (.int .i64 n_)].toArray 164 (0, 0))) (hv : ViewAt (ptr vb) img l w) (hm : bdirect_M gw gi gb n_ k_ = some r) : Spec Tryz.prog 119 #[(.pointer (some ⟨mb, 0, none⟩)), (.int .i64 k_)] B w [] (fun v H' => v = (.tuple #[(.int .i64 r.1), (.bool r.2)]) ∧ H' = []) := by
 refine spec_Q Tryz.func119 rfl fun hs => ?_
 unfold bdirect_M at hm
 refine W.sr fun K1 hK1 => ?_
 refine zE 2 (hK1 _ _ ?_)
 refine W.sr fun K2 hK2 => ?_
 refine zR 2 ?_
 obtain ⟨h3, hm⟩ := need_some hm
 refine zI _ (wrap_i64 h3.1 h3.2) ?_
 obtain ⟨r4, h5, hm⟩ := bind_some hm
 refine zC00 hs (bown_walk (w_ := (4 + k_)) (img := img) (l := l) (gw := gw) (gi := gi) (gb := gb) (n_ := n_) (hmb := (hs.old hmb)) (hv := (viewAt_old hs hv)) (hm := h5) B _) fun w6 hs8 => ?_
 refine zE 2 (hK2 _ _ ?_)
 refine W.ret ?_
 obtain rfl := some_inj hm
 refine ret_of (.tuple #[(.int .i64 r4), (.bool true)]) (by kernel_rfl) ⟨_, ⟨rfl, rfl⟩, hs8⟩

end Go.Proofs.YtmmclabkkigiaaaGreatDoor

set_option linter.unusedVariables false
set_option maxRecDepth 20000
set_option maxHeartbeats 2000000
namespace Go.Proofs.YtmmclabkkigiaaaGreatDoor
open Go Go.RowKit
set_option linter.unusedSimpArgs false
set_option linter.unusedVariables false

def bchained_M (img : List Int) (l : List (Int × Int)) (gw : Int) (gi : Int) (gb : Int) (n_ : Int) (k_ : Int) : Option (Int × Bool) :=
 (bchain_M img l gw gi gb n_).bind fun r3 =>
need (-9223372036854775808 ≤ ((placeOf 9 gw gi gb r3) + k_) ∧ ((placeOf 9 gw gi gb r3) + k_) ≤ 9223372036854775807) <|
need (-9223372036854775808 ≤ (((placeOf 9 gw gi gb r3) + k_) - 4) ∧ (((placeOf 9 gw gi gb r3) + k_) - 4) ≤ 9223372036854775807) <|
(some (((placeOf 9 gw gi gb r3) + k_) - 4)).bind fun r14 =>
some (r14, !decide (r3 = 0))

theorem bchained_walk {img : List Int} {l : List (Int × Int)} {gw : Int} {gi : Int} {gb : Int} {n_ : Int} {k_ : Int} {mb vb : Nat} {r : Int × Bool} (B : Nat) (w : World) (hmb : w.heap[mb]? = some (.cells [(.pointer (some ⟨vb, 0, none⟩)), (.int .i64 gw), (.int .i64 gi), (.int .i64 gb), (.int .i64 n_)].toArray 164 (0, 0))) (hv : ViewAt (ptr vb) img l w) (hm : bchained_M img l gw gi gb n_ k_ = some r) : Spec Tryz.prog 120 #[(.pointer (some ⟨mb, 0, none⟩)), (.int .i64 k_)] B w [] (fun v H' => v = (.tuple #[(.int .i64 r.1), (.bool r.2)]) ∧ H' = []) := by
 refine spec_Q Tryz.func120 rfl fun hs => ?_
 unfold bchained_M at hm
 refine W.sr fun K1 hK1 => ?_
 refine zE 2 (hK1 _ _ ?_)
 refine W.sr fun K2 hK2 => ?_
 refine zR 1 ?_
 obtain ⟨r3, h4, hm⟩ := bind_some hm
 refine zC00 hs (bchain_walk (img := img) (l := l) (gw := gw) (gi := gi) (gb := gb) (n_ := n_) (hmb := (hs.old hmb)) (hv := (viewAt_old hs hv)) (hm := h4) B _) fun w5 hs7 => ?_
 refine zE 1 (hK2 _ _ ?_)
 refine W.sr fun K8 hK8 => ?_
 refine zR 3 ?_
 refine ops_R (runs_loadAgg (ad := ⟨mb, 1, none⟩) (cs := [(.int .i64 gw), (.int .i64 gi), (.int .i64 gb)]) (by kernel_rfl) (cells_sub (hs7.old hmb) rfl)) ?_
 refine zR 1 ?_
 refine zC00 hs7 (blockat_spec (gw := gw) (gi := gi) (gb := gb) (n_ := r3) B _) fun w9 hs11 => ?_
 refine zR 1 ?_
 obtain ⟨h12, hm⟩ := need_some hm
 refine zI _ (wrap_i64 h12.1 h12.2) ?_
 obtain ⟨h13, hm⟩ := need_some hm
 refine zI _ (wrap_i64 h13.1 h13.2) ?_
 refine zR 3 ?_
 obtain ⟨r14, h15, hm⟩ := bind_some hm
 replace h15 := some_inj h15
 refine ops_set 4 (v := .int .i64 r14) (Eq.trans (by kernel_rfl) (congrArg (Value.int .i64) h15)) ?_
 refine zE 1 (hK8 _ _ ?_)
 refine W.ret ?_
 obtain rfl := some_inj hm
 refine ret_of (.tuple #[(.int .i64 r14), (.bool (!decide (r3 = 0)))]) (by kernel_rfl) ⟨_, ⟨rfl, rfl⟩, hs11⟩

end Go.Proofs.YtmmclabkkigiaaaGreatDoor

set_option linter.unusedVariables false
set_option maxRecDepth 20000
set_option maxHeartbeats 2000000
namespace Go.Proofs.YtmmclabkkigiaaaGreatDoor
open Go Go.RowKit
set_option linter.unusedSimpArgs false
set_option linter.unusedVariables false

def bword_M (img : List Int) (l : List (Int × Int)) (gw : Int) (gi : Int) (gb : Int) (n_ : Int) (k_ : Int) : Option (Int × Bool) :=
 if k_ ≥ 4 then ((bchained_M img l gw gi gb n_ k_).bind fun r7 =>
some (r7.1, r7.2)) else ((bdirect_M gw gi gb n_ k_).bind fun r13 =>
some (r13.1, r13.2))

theorem bword_walk {img : List Int} {l : List (Int × Int)} {gw : Int} {gi : Int} {gb : Int} {n_ : Int} {k_ : Int} {mb vb : Nat} {r : Int × Bool} (B : Nat) (w : World) (hmb : w.heap[mb]? = some (.cells [(.pointer (some ⟨vb, 0, none⟩)), (.int .i64 gw), (.int .i64 gi), (.int .i64 gb), (.int .i64 n_)].toArray 164 (0, 0))) (hv : ViewAt (ptr vb) img l w) (hm : bword_M img l gw gi gb n_ k_ = some r) : Spec Tryz.prog 88 #[(.pointer (some ⟨mb, 0, none⟩)), (.int .i64 k_)] B w [] (fun v H' => v = (.tuple #[(.int .i64 r.1), (.bool r.2)]) ∧ H' = []) := by
 refine spec_Q Tryz.func88 rfl fun hs => ?_
 unfold bword_M at hm
 refine W.sr fun K1 hK1 => ?_
 refine zE 2 (hK1 _ _ ?_)
 refine W.sr fun K2 hK2 => ?_
 refine zE 3 (hK2 _ _ ?_)
 refine W.seq fun K3 hK3 => ?_
 refine W.sr fun K4 hK4 => ?_
 refine zE 2 (hK4 _ _ ?_)
 refine W.cond (decide (k_ ≥ 4)) (by kernel_rfl) (fun h5 => ?_) (fun h5 => ?_)
 ·
  obtain ⟨h5p, hm⟩ := iY hm h5
  refine W.region ?_
  refine zE 3 (hK3 _ _ ?_)
  refine W.sr fun K6 hK6 => ?_
  refine zR 2 ?_
  obtain ⟨r7, h8, hm⟩ := bind_some hm
  refine zC00 hs (bchained_walk (k_ := k_) (img := img) (l := l) (gw := gw) (gi := gi) (gb := gb) (n_ := n_) (hmb := (hs.old hmb)) (hv := (viewAt_old hs hv)) (hm := h8) B _) fun w9 hs11 => ?_
  refine zE 4 (hK6 _ _ ?_)
  refine W.ret ?_
  obtain rfl := some_inj hm
  refine ret_of (.tuple #[(.int .i64 r7.1), (.bool r7.2)]) (by kernel_rfl) ⟨_, ⟨rfl, rfl⟩, hs11⟩
 ·
  obtain ⟨h5p, hm⟩ := iN hm h5
  refine W.skip ?_
  refine hK3 _ _ ?_
  refine W.sr fun K12 hK12 => ?_
  refine zR 2 ?_
  obtain ⟨r13, h14, hm⟩ := bind_some hm
  refine zC00 hs (bdirect_walk (k_ := k_) (img := img) (l := l) (gw := gw) (gi := gi) (gb := gb) (n_ := n_) (hmb := (hs.old hmb)) (hv := (viewAt_old hs hv)) (hm := h14) B _) fun w15 hs17 => ?_
  refine zE 4 (hK12 _ _ ?_)
  refine W.ret ?_
  obtain rfl := some_inj hm
  refine ret_of (.tuple #[(.int .i64 r13.1), (.bool r13.2)]) (by kernel_rfl) ⟨_, ⟨rfl, rfl⟩, hs17⟩

end Go.Proofs.YtmmclabkkigiaaaGreatDoor

set_option linter.unusedVariables false
set_option maxRecDepth 20000
set_option maxHeartbeats 2000000
namespace Go.Proofs.YtmmclabkkigiaaaGreatDoor
open Go Go.RowKit
set_option linter.unusedSimpArgs false
set_option linter.unusedVariables false

def bat_J2 (img : List Int) (l : List (Int × Int)) (gw : Int) (gi : Int) (gb : Int) (n_ : Int) (k_ : Int) (p5 : Int) : Option (Int × Int) :=
 if p5 = 0 then ((bword_M img l gw gi gb n_ k_).bind fun r11 =>
if r11.2 = true then (need (0 ≤ gb ∧ gb ≤ 18446744073709551615) <|
if (vget img l r11.1) ≥ gb then (some (0, 4)) else (need (-9223372036854775808 ≤ (vget img l r11.1) ∧ (vget img l r11.1) ≤ 9223372036854775807) <|
some ((vget img l r11.1), 0))) else (some (0, 0))) else (some (0, p5))

def bat_J1 (img : List Int) (l : List (Int × Int)) (gw : Int) (gi : Int) (gb : Int) (n_ : Int) (k_ : Int) : Option (Int × Int) :=
 (some (igetM img l gw gi gb n_)).bind fun r33 =>
bat_J2 img l gw gi gb n_ k_ r33.2

def bat_M (img : List Int) (l : List (Int × Int)) (gw : Int) (gi : Int) (gb : Int) (n_ : Int) (k_ : Int) : Option (Int × Int) :=
 if k_ < 0 then (if k_ < 0 then (some (0, 1)) else (bat_J1 img l gw gi gb n_ k_)) else (if k_ ≥ 12 then (some (0, 1)) else (bat_J1 img l gw gi gb n_ k_))

theorem bat_walk {img : List Int} {l : List (Int × Int)} {gw : Int} {gi : Int} {gb : Int} {n_ : Int} {k_ : Int} {mb vb : Nat} {r : Int × Int} (B : Nat) (w : World) (hmb : w.heap[mb]? = some (.cells [(.pointer (some ⟨vb, 0, none⟩)), (.int .i64 gw), (.int .i64 gi), (.int .i64 gb), (.int .i64 n_)].toArray 164 (0, 0))) (hv : ViewAt (ptr vb) img l w) (hm : bat_M img l gw gi gb n_ k_ = some r) : Spec Tryz.prog 57 #[(.pointer (some ⟨mb, 0, none⟩)), (.int .i64 k_)] B w [] (fun v H' => v = (.tuple #[(.int .i64 r.1), (.int .i64 r.2)]) ∧ H' = []) := by
 refine spec_Q Tryz.func57 rfl fun hs => ?_
 unfold bat_M at hm
 refine W.sr fun K1 hK1 => ?_
 refine zE 2 (hK1 _ _ ?_)
 refine W.seq_join (fun s_ w_ => (∃ us, s_ = slots 62 [(0, (.pointer (some ⟨mb, 0, none⟩))), (1, (.int .i64 k_))] us) ∧ St B w [] w_ [] ∧ bat_J1 img l gw gi gb n_ k_ = some r) ?_ ?_
 ·
  rintro _ w2 ⟨⟨us, rfl⟩, hs3, hm⟩
  unfold bat_J1 at hm
  refine W.seq fun K4 hK4 => ?_
  refine W.seq_join (fun s_ w_ => ∃ (p5 : Int), (∃ us, s_ = slots 62 [(0, (.pointer (some ⟨mb, 0, none⟩))), (1, (.int .i64 k_)), (7, (.int .i64 p5))] us) ∧ St B w [] w_ [] ∧ bat_J2 img l gw gi gb n_ k_ p5 = some r) ?_ ?_
  ·
   rintro _ w6 ⟨p5, ⟨us, rfl⟩, hs7, hm⟩
   unfold bat_J2 at hm
   refine W.sr fun K8 hK8 => ?_
   refine zE 2 (hK8 _ _ ?_)
   refine W.cond (!decide (p5 = 0)) (by kernel_rfl) (fun h9 => ?_) (fun h9 => ?_)
   rotate_left
   ·
    have h9p : p5 = 0 := of_decide_eq_true (bnot_false h9)
    replace hm := ite_yes hm h9p
    refine W.skip ?_
    refine hK4 _ _ ?_
    refine W.sr fun K10 hK10 => ?_
    refine zR 2 ?_
    obtain ⟨r11, h12, hm⟩ := bind_some hm
    refine zC00 hs7 (bword_walk (k_ := k_) (img := img) (l := l) (gw := gw) (gi := gi) (gb := gb) (n_ := n_) (hmb := (hs7.old hmb)) (hv := (viewAt_old hs7 hv)) (hm := h12) B _) fun w13 hs15 => ?_
    refine zE 5 (hK10 _ _ ?_)
    refine W.seq fun K16 hK16 => ?_
    refine W.sr fun K17 hK17 => ?_
    refine zE 2 (hK17 _ _ ?_)
    refine W.cond (!r11.2) (by kernel_rfl) (fun h18 => ?_) (fun h18 => ?_)
    rotate_left
    ·
     have h18p : r11.2 = true := (bnot_false h18)
     replace hm := ite_yes hm h18p
     refine W.skip ?_
     refine hK16 _ _ ?_
     refine W.sr fun K19 hK19 => ?_
     refine zR 3 ?_
     refine zL ⟨mb, 0, none⟩ (.pointer (some ⟨vb, 0, none⟩)) (cell_of_blk (hs15.old hmb) rfl) ?_
     refine zR 1 ?_
     refine zC00 hs15 (get_spec (at_ := r11.1) (hv := (viewAt_old hs15 hv)) B _) fun w20 hs22 => ?_
     refine zE 1 (hK19 _ _ ?_)
     refine W.seq fun K23 hK23 => ?_
     refine W.sr fun K24 hK24 => ?_
     refine zR 5 ?_
     refine zL ⟨mb, 3, none⟩ (.int .i64 gb) (cell_of_blk (hs22.old hmb) rfl) ?_
     obtain ⟨h25, hm⟩ := need_some hm
     refine zI _ (wrap_u64 h25.1 (Int.lt_of_le_of_lt h25.2 (by decide))) ?_
     refine zE 1 (hK24 _ _ ?_)
     refine W.cond (decide ((vget img l r11.1) ≥ gb)) (by kernel_rfl) (fun h26 => ?_) (fun h26 => ?_)
     ·
      obtain ⟨h26p, hm⟩ := iY hm h26
      refine W.sr fun K27 hK27 => ?_
      refine zE 2 (hK27 _ _ ?_)
      refine W.ret (ret_seq ?_)
      obtain rfl := some_inj hm
      refine ret_of (.tuple #[(.int .i64 0), (.int .i64 4)]) (by kernel_rfl) ⟨_, ⟨rfl, rfl⟩, hs22⟩
     ·
      obtain ⟨h26p, hm⟩ := iN hm h26
      refine W.skip ?_
      refine hK23 _ _ ?_
      refine W.sr fun K28 hK28 => ?_
      refine zR 1 ?_
      obtain ⟨h29, hm⟩ := need_some hm
      refine zI _ (wrap_i64 h29.1 h29.2) ?_
      refine zE 2 (hK28 _ _ ?_)
      refine W.ret ?_
      obtain rfl := some_inj hm
      refine ret_of (.tuple #[(.int .i64 (vget img l r11.1)), (.int .i64 0)]) (by kernel_rfl) ⟨_, ⟨rfl, rfl⟩, hs22⟩
    ·
     have h18p : ¬ (r11.2 = true) := ne_true_of_eq_false (bnot_true h18)
     replace hm := ite_no hm h18p
     refine W.sr fun K30 hK30 => ?_
     refine zE 2 (hK30 _ _ ?_)
     refine W.ret (ret_seq ?_)
     obtain rfl := some_inj hm
     refine ret_of (.tuple #[(.int .i64 0), (.int .i64 0)]) (by kernel_rfl) ⟨_, ⟨rfl, rfl⟩, hs15⟩
   ·
    have h9p : ¬ (p5 = 0) := of_decide_eq_false (bnot_true h9)
    replace hm := ite_no hm h9p
    refine W.sr fun K31 hK31 => ?_
    refine zE 3 (hK31 _ _ ?_)
    refine W.ret (ret_seq ?_)
    obtain rfl := some_inj hm
    refine ret_of (.tuple #[(.int .i64 0), (.int .i64 p5)]) (by kernel_rfl) ⟨_, ⟨rfl, rfl⟩, hs7⟩
  ·
   have hs32 := hs3.drew
   refine W.regionD [(0, 0), (1, 1), (2, 2), (4, 4), (0, 0), (16, 16), (32, 32), (64, 64), (0, 0), (256, 256), (512, 512), (1024, 1024), (2184, 2184), (4096, 4096), (8192, 8192), (8192, 8192), (0, 0), (98303, 81920), (262143, 32768)] (fun w_ => St B w [] w_ []) (by kernel_rfl) hs32 ?_
   refine any_val (v := (.pointer (some ⟨mb, 0, none⟩))) (v' := (.pointer (some ⟨mb, 0, none⟩))) 0 (by kernel_rfl) (fun _ => by kernel_rfl) rfl hs32 ?_
   refine any_val (v := (.pointer (some ⟨mb, 0, none⟩))) (v' := (.pointer (some ⟨mb, 0, none⟩))) 1 (by kernel_rfl) (fun _ => by kernel_rfl) rfl hs32 ?_
   refine any_val (v := (.pointer (some ⟨mb, 0, none⟩))) (v' := (.pointer (some ⟨mb, 0, none⟩))) 2 (by kernel_rfl) (fun _ => by kernel_rfl) rfl hs32 ?_
   refine any_R 3 (by kernel_rfl) (fun _ hS_ => runs_load (ad := ⟨mb, 0, none⟩) (v := (.pointer (some ⟨vb, 0, none⟩))) (by kernel_rfl) (cell_of_blk (hS_.old hmb) rfl)) hs32 ?_
   refine any_val (v := (.pointer (some ⟨mb, 0, none⟩))) (v' := (.pointer (some ⟨mb, 0, none⟩))) 4 (by kernel_rfl) (fun _ => by kernel_rfl) rfl hs32 ?_
   refine any_val (v := (.pointer (some ⟨mb, 0, none⟩))) (v' := (.pointer (some ⟨mb, 0, none⟩))) 5 (by kernel_rfl) (fun _ => by kernel_rfl) rfl hs32 ?_
   refine any_val (v := (.pointer (some ⟨mb, 1, none⟩))) (v' := (.pointer (some ⟨mb, 1, none⟩))) 6 (by kernel_rfl) (fun _ => by kernel_rfl) rfl hs32 ?_
   refine any_R 7 (by kernel_rfl) (fun _ hS_ => runs_loadAgg (ad := ⟨mb, 1, none⟩) (cs := [(.int .i64 gw), (.int .i64 gi), (.int .i64 gb)]) (by kernel_rfl) (cells_sub (hS_.old hmb) rfl)) hs32 ?_
   refine any_val (v := (.pointer (some ⟨mb, 0, none⟩))) (v' := (.pointer (some ⟨mb, 0, none⟩))) 8 (by kernel_rfl) (fun _ => by kernel_rfl) rfl hs32 ?_
   refine any_val (v := (.pointer (some ⟨mb, 0, none⟩))) (v' := (.pointer (some ⟨mb, 0, none⟩))) 9 (by kernel_rfl) (fun _ => by kernel_rfl) rfl hs32 ?_
   refine any_val (v := (.pointer (some ⟨mb, 4, none⟩))) (v' := (.pointer (some ⟨mb, 4, none⟩))) 10 (by kernel_rfl) (fun _ => by kernel_rfl) rfl hs32 ?_
   refine any_R 11 (by kernel_rfl) (fun _ hS_ => runs_load (ad := ⟨mb, 4, none⟩) (v := (.int .i64 n_)) (by kernel_rfl) (cell_of_blk (hS_.old hmb) rfl)) hs32 ?_
   refine any_step2 12 16 (by kernel_rfl) (by kernel_rfl) (by kernel_rfl) ?_ ?_
   ·
    obtain ⟨r33, h34, hm⟩ := bind_some hm
    replace h34 := some_inj h34
    refine ops_call0 hs32 (by kernel_rfl) (ig_spec (gw := gw) (gi := gi) (gb := gb) (n_ := n_) (hv := (viewAt_old hs32 hv)) B _) ?_
    rintro _ _ w35 ⟨hv37, hH38⟩ hs36
    rw [h34] at hv37
    try rw [h34] at hH38
    subst hv37 hH38
    have hs39 := St.ap0 hs36
    refine ops_done (by kernel_rfl) ⟨hs39, ?_⟩
    refine any_val (v := (.tuple #[(.agg #[(.int .u64 r33.1.k), (.int .u64 r33.1.l), (.int .u64 r33.1.o), (.int .u64 r33.1.s), (.int .u64 r33.1.a), (.int .u64 r33.1.b), (.int .u64 r33.1.c), (.int .u64 r33.1.d), (.int .u64 r33.1.e), (.int .u64 r33.1.m)]), (.int .i64 r33.2)])) (v' := (.tuple #[(.agg #[(.int .u64 r33.1.k), (.int .u64 r33.1.l), (.int .u64 r33.1.o), (.int .u64 r33.1.s), (.int .u64 r33.1.a), (.int .u64 r33.1.b), (.int .u64 r33.1.c), (.int .u64 r33.1.d), (.int .u64 r33.1.e), (.int .u64 r33.1.m)]), (.int .i64 r33.2)])) 13 (by kernel_rfl) (fun _ => by kernel_rfl) rfl hs39 ?_
    refine any_val (v := (.agg #[(.int .u64 r33.1.k), (.int .u64 r33.1.l), (.int .u64 r33.1.o), (.int .u64 r33.1.s), (.int .u64 r33.1.a), (.int .u64 r33.1.b), (.int .u64 r33.1.c), (.int .u64 r33.1.d), (.int .u64 r33.1.e), (.int .u64 r33.1.m)])) (v' := (.agg #[(.int .u64 r33.1.k), (.int .u64 r33.1.l), (.int .u64 r33.1.o), (.int .u64 r33.1.s), (.int .u64 r33.1.a), (.int .u64 r33.1.b), (.int .u64 r33.1.c), (.int .u64 r33.1.d), (.int .u64 r33.1.e), (.int .u64 r33.1.m)])) 14 (by kernel_rfl) (fun _ => by kernel_rfl) rfl hs39 ?_
    refine any_val (v := (.int .i64 r33.2)) (v' := (.int .i64 r33.2)) 15 (by kernel_rfl) (fun _ => by kernel_rfl) rfl hs39 ?_
    refine any_step 16 (by kernel_rfl) (by kernel_rfl) ?_
    refine zN [(.int .u64 0), (.int .u64 0), (.int .u64 0), (.int .u64 0), (.int .u64 0), (.int .u64 0), (.int .u64 0), (.int .u64 0), (.int .u64 0), (.int .u64 0)] 153 hs39 fun b42 w40 hs41 => ?_
    have hs43 := St.tk0 hs41
    refine ops_done (by kernel_rfl) ⟨hs43, ?_⟩
    refine any_step 17 (by kernel_rfl) (by kernel_rfl) ?_
    refine ops_store (off := 0) (cs := [(.int .u64 0), (.int .u64 0), (.int .u64 0), (.int .u64 0), (.int .u64 0), (.int .u64 0), (.int .u64 0), (.int .u64 0), (.int .u64 0), (.int .u64 0)]) (vs := [(.int .u64 r33.1.k), (.int .u64 r33.1.l), (.int .u64 r33.1.o), (.int .u64 r33.1.s), (.int .u64 r33.1.a), (.int .u64 r33.1.b), (.int .u64 r33.1.c), (.int .u64 r33.1.d), (.int .u64 r33.1.e), (.int .u64 r33.1.m)]) hs41 (by kernel_rfl) (by simp) rfl (fun w44 hs45 => ?_)
    have hs46 : St B w [] w44 [blk b42 (.cells [(.int .u64 r33.1.k), (.int .u64 r33.1.l), (.int .u64 r33.1.o), (.int .u64 r33.1.s), (.int .u64 r33.1.a), (.int .u64 r33.1.b), (.int .u64 r33.1.c), (.int .u64 r33.1.d), (.int .u64 r33.1.e), (.int .u64 r33.1.m)].toArray 153 (0, 0))] := hs45
    have hs47 := St.tk0 hs46
    refine ops_done (by kernel_rfl) ⟨hs47, ?_⟩
    refine any_val (v := (.int .i64 r33.2)) (v' := (.int .i64 r33.2)) 18 (by kernel_rfl) (fun _ => by kernel_rfl) rfl hs47 ?_
    refine any_done (by kernel_rfl) ?_
    have hs48 := St.tk0 hs46
    exact ⟨r33.2, slots_intro _ (by kernel_rfl), hs48, hm⟩
   ·
    refine zN [(.int .u64 0), (.int .u64 0), (.int .u64 0), (.int .u64 0), (.int .u64 0), (.int .u64 0), (.int .u64 0), (.int .u64 0), (.int .u64 0), (.int .u64 0)] 153 hs32 fun b51 w49 hs50 => ?_
    have hs52 := St.tk0 hs50
    refine ops_done (by kernel_rfl) ⟨hs52, ?_⟩
    refine any_step 12 (by kernel_rfl) (by kernel_rfl) ?_
    obtain ⟨r53, h54, hm⟩ := bind_some hm
    replace h54 := some_inj h54
    refine ops_call0 hs50 (by kernel_rfl) (ig_spec (gw := gw) (gi := gi) (gb := gb) (n_ := n_) (hv := (viewAt_old hs50 hv)) B _) ?_
    rintro _ _ w55 ⟨hv57, hH58⟩ hs56
    rw [h54] at hv57
    try rw [h54] at hH58
    subst hv57 hH58
    have hs59 := St.ap0 hs56
    have hs60 := St.tk0 hs59
    refine ops_done (by kernel_rfl) ⟨hs60, ?_⟩
    refine any_val (v := (.tuple #[(.agg #[(.int .u64 r53.1.k), (.int .u64 r53.1.l), (.int .u64 r53.1.o), (.int .u64 r53.1.s), (.int .u64 r53.1.a), (.int .u64 r53.1.b), (.int .u64 r53.1.c), (.int .u64 r53.1.d), (.int .u64 r53.1.e), (.int .u64 r53.1.m)]), (.int .i64 r53.2)])) (v' := (.tuple #[(.agg #[(.int .u64 r53.1.k), (.int .u64 r53.1.l), (.int .u64 r53.1.o), (.int .u64 r53.1.s), (.int .u64 r53.1.a), (.int .u64 r53.1.b), (.int .u64 r53.1.c), (.int .u64 r53.1.d), (.int .u64 r53.1.e), (.int .u64 r53.1.m)]), (.int .i64 r53.2)])) 13 (by kernel_rfl) (fun _ => by kernel_rfl) rfl hs60 ?_
    refine any_val (v := (.agg #[(.int .u64 r53.1.k), (.int .u64 r53.1.l), (.int .u64 r53.1.o), (.int .u64 r53.1.s), (.int .u64 r53.1.a), (.int .u64 r53.1.b), (.int .u64 r53.1.c), (.int .u64 r53.1.d), (.int .u64 r53.1.e), (.int .u64 r53.1.m)])) (v' := (.agg #[(.int .u64 r53.1.k), (.int .u64 r53.1.l), (.int .u64 r53.1.o), (.int .u64 r53.1.s), (.int .u64 r53.1.a), (.int .u64 r53.1.b), (.int .u64 r53.1.c), (.int .u64 r53.1.d), (.int .u64 r53.1.e), (.int .u64 r53.1.m)])) 14 (by kernel_rfl) (fun _ => by kernel_rfl) rfl hs60 ?_
    refine any_val (v := (.int .i64 r53.2)) (v' := (.int .i64 r53.2)) 15 (by kernel_rfl) (fun _ => by kernel_rfl) rfl hs60 ?_
    refine any_step 17 (by kernel_rfl) (by kernel_rfl) ?_
    refine ops_store (off := 0) (cs := [(.int .u64 0), (.int .u64 0), (.int .u64 0), (.int .u64 0), (.int .u64 0), (.int .u64 0), (.int .u64 0), (.int .u64 0), (.int .u64 0), (.int .u64 0)]) (vs := [(.int .u64 r53.1.k), (.int .u64 r53.1.l), (.int .u64 r53.1.o), (.int .u64 r53.1.s), (.int .u64 r53.1.a), (.int .u64 r53.1.b), (.int .u64 r53.1.c), (.int .u64 r53.1.d), (.int .u64 r53.1.e), (.int .u64 r53.1.m)]) hs59 (by kernel_rfl) (by simp) rfl (fun w61 hs62 => ?_)
    have hs63 : St B w [] w61 [blk b51 (.cells [(.int .u64 r53.1.k), (.int .u64 r53.1.l), (.int .u64 r53.1.o), (.int .u64 r53.1.s), (.int .u64 r53.1.a), (.int .u64 r53.1.b), (.int .u64 r53.1.c), (.int .u64 r53.1.d), (.int .u64 r53.1.e), (.int .u64 r53.1.m)].toArray 153 (0, 0))] := hs62
    have hs64 := St.tk0 hs63
    refine ops_done (by kernel_rfl) ⟨hs64, ?_⟩
    refine any_val (v := (.int .i64 r53.2)) (v' := (.int .i64 r53.2)) 18 (by kernel_rfl) (fun _ => by kernel_rfl) rfl hs64 ?_
    refine any_done (by kernel_rfl) ?_
    have hs65 := St.tk0 hs63
    exact ⟨r53.2, slots_intro _ (by kernel_rfl), hs65, hm⟩
 ·
  refine W.block ?_
  refine W.sr fun K66 hK66 => ?_
  refine zE 3 (hK66 _ _ ?_)
  refine W.cond_false false (by kernel_rfl) rfl ?_
  refine W.seq fun K67 hK67 => ?_
  refine W.sr fun K68 hK68 => ?_
  refine zE 3 (hK68 _ _ ?_)
  refine W.cond (decide (k_ < 0)) (by kernel_rfl) (fun h69 => ?_) (fun h69 => ?_)
  ·
   obtain ⟨h69p, hm⟩ := iY hm h69
   refine W.skip ?_
   refine hK67 _ _ ?_
   refine W.cond (decide (k_ < 0)) (by kernel_rfl) (fun h70 => ?_) (fun h70 => ?_)
   ·
    obtain ⟨h70p, hm⟩ := iY hm h70
    refine W.sr fun K71 hK71 => ?_
    refine zE 2 (hK71 _ _ ?_)
    refine W.ret (ret_block (ret_seq ?_))
    obtain rfl := some_inj hm
    refine ret_of (.tuple #[(.int .i64 0), (.int .i64 1)]) (by kernel_rfl) ⟨_, ⟨rfl, rfl⟩, hs⟩
   ·
    obtain ⟨h70p, hm⟩ := iN hm h70
    refine W.skip ?_
    refine normal_block ?_
    exact ⟨slots_intro _ (by kernel_rfl), hs, hm⟩
  ·
   obtain ⟨h69p, hm⟩ := iN hm h69
   refine W.region ?_
   refine zE 3 (hK67 _ _ ?_)
   refine W.cond (decide (k_ ≥ 12)) (by kernel_rfl) (fun h72 => ?_) (fun h72 => ?_)
   ·
    obtain ⟨h72p, hm⟩ := iY hm h72
    refine W.sr fun K73 hK73 => ?_
    refine zE 2 (hK73 _ _ ?_)
    refine W.ret (ret_block (ret_seq ?_))
    obtain rfl := some_inj hm
    refine ret_of (.tuple #[(.int .i64 0), (.int .i64 1)]) (by kernel_rfl) ⟨_, ⟨rfl, rfl⟩, hs⟩
   ·
    obtain ⟨h72p, hm⟩ := iN hm h72
    refine W.skip ?_
    refine normal_block ?_
    exact ⟨slots_intro _ (by kernel_rfl), hs, hm⟩

end Go.Proofs.YtmmclabkkigiaaaGreatDoor

set_option linter.unusedVariables false
set_option maxRecDepth 20000
set_option maxHeartbeats 1000000
namespace Go.Proofs.YtmmclabkkigiaaaGreatDoor
open Go Go.RowKit
set_option linter.unusedSimpArgs false
set_option linter.unusedVariables false

def unpack_B0 (ws : List Int) (n_ : Int) (k18 : ((List Int) × Int) → Option (ByteArray × Int)) (q16 : List Int) (p17 : Int) : Option (ByteArray × Int) :=
 if p17 < (n_.toNat : Int) then (need (-9223372036854775808 ≤ (p17.tdiv 8) ∧ (p17.tdiv 8) ≤ 9223372036854775807) <|
need (0 ≤ (p17.tdiv 8) ∧ (p17.tdiv 8) < (ws.length : Int)) <|
need (-9223372036854775808 ≤ (8 * p17.tmod 8) ∧ (8 * p17.tmod 8) ≤ 9223372036854775807) <|
need (0 ≤ (8 * p17.tmod 8)) <|
need (0 ≤ p17 ∧ p17 < (n_.toNat : Int)) <|
need (p17.toNat < q16.length) <|
need (-9223372036854775808 ≤ (p17 + 1) ∧ (p17 + 1) ≤ 9223372036854775807) <|
k18 ((q16.set p17.toNat ((shrK .u64 (ws.getD ((p17.tdiv 8).toNat) 0) (8 * p17.tmod 8)) % 256)), (p17 + 1))) else (need (n_.toNat = q16.length) <|
some ((strOfNums q16), 0))

def unpack_M (ws : List Int) (n_ : Int) : Option (ByteArray × Int) :=
 if n_ < 0 then (some (ByteArray.empty, 1)) else (need (-9223372036854775808 ≤ (8 * (ws.length : Int)) ∧ (8 * (ws.length : Int)) ≤ 9223372036854775807) <|
if n_ > (8 * (ws.length : Int)) then (some (ByteArray.empty, 1)) else (need (n_ ≤ 1000000000) <|
iter (fun k_ s_ => unpack_B0 ws n_ k_ s_.1 s_.2) FUEL ((List.replicate n_.toNat (0 : Int)), 0)))

theorem unpack_walk {ws : List Int} {n_ : Int} {wa : Option Addr} {wc : Nat} {r : ByteArray × Int} (B : Nat) (w : World) (hw : CellsAt wa (kU64.cells ws) w) (hm : unpack_M ws n_ = some r) : Spec Tryz.prog 85 #[(.slice wa ws.length wc), (.int .i64 n_)] B w [] (fun v H' => v = .tuple #[.string r.1, .int .i64 r.2] ∧ H' = []) := by
 refine spec_Q Tryz.func85 rfl fun hs => ?_
 unfold unpack_M at hm
 refine W.sr fun K1 hK1 => ?_
 refine zE 2 (hK1 _ _ ?_)
 refine W.seq fun K2 hK2 => ?_
 refine W.sr fun K3 hK3 => ?_
 refine zR 3 ?_
 rcases Bool.eq_false_or_eq_true (decide (n_ < 0)) with h4 | h4
 ·
  obtain ⟨h4p, hm⟩ := iY hm h4
  refine zS 10 h4 ?_
  refine zS 9 h4 ?_
  refine zE 6 (hK3 _ _ ?_)
  refine W.cond_true true (by kernel_rfl) rfl ?_
  refine W.sr fun K5 hK5 => ?_
  refine zE 2 (hK5 _ _ ?_)
  refine W.ret (ret_seq ?_)
  obtain rfl := some_inj hm
  refine ret_of (.tuple #[(.string ByteArray.empty), (.int .i64 1)]) (by kernel_rfl) ⟨_, ⟨rfl, rfl⟩, hs⟩
 ·
  obtain ⟨h4p, hm⟩ := iN hm h4
  refine zS 10 h4 ?_
  refine zS 9 h4 ?_
  refine zR 3 ?_
  obtain ⟨h6, hm⟩ := need_some hm
  refine zI _ (wrap_i64 h6.1 h6.2) ?_
  refine zE 2 (hK3 _ _ ?_)
  refine W.cond (decide (n_ > (8 * (ws.length : Int)))) (by kernel_rfl) (fun h7 => ?_) (fun h7 => ?_)
  ·
   obtain ⟨h7p, hm⟩ := iY hm h7
   refine W.sr fun K8 hK8 => ?_
   refine zE 2 (hK8 _ _ ?_)
   refine W.ret (ret_seq ?_)
   obtain rfl := some_inj hm
   refine ret_of (.tuple #[(.string ByteArray.empty), (.int .i64 1)]) (by kernel_rfl) ⟨_, ⟨rfl, rfl⟩, hs⟩
  ·
   obtain ⟨h7p, hm⟩ := iN hm h7
   refine W.skip ?_
   refine hK2 _ _ ?_
   refine W.sr fun K9 hK9 => ?_
   refine zR 1 ?_
   obtain ⟨h13, hm⟩ := need_some hm
   refine ops_makeSlice kU8 0 (z := n_) (bytes := 1) n_.toNat (nat_of (by omega)) hs (by kernel_rfl) (by omega) (by unfold maxLen; omega) (fun b10 w11 hs12 => ?_)
   refine zE 1 (hK9 _ _ ?_)
   refine W.seq fun K14 hK14 => ?_
   refine W.sr fun K15 hK15 => ?_
   refine zE 3 (hK15 _ _ ?_)
   refine W.block ?_
   refine W.loop_iter (G := (List Int) × Int) (σ := (List Int) × Int) (fun | (q16, p17) => (q16, p17)) (fun | (q16, p17), s_, w_ => (∃ us, s_ = slots 40 [(0, (.slice wa ws.length wc)), (6, (.slice (some ⟨b10, 0, none⟩) n_.toNat n_.toNat)), (20, (.int .i64 (n_.toNat : Int))), (21, (.int .i64 p17))] us) ∧ St B w [] w_ [kU8.row (some ⟨b10, 0, none⟩) n_.toNat q16]) ((List.replicate n_.toNat (0 : Int)), 0) ⟨slots_intro _ (by kernel_rfl), hs12⟩ hm ?_
   rintro k18 ih19 ⟨q16, p17⟩ _ w20 ⟨⟨us, rfl⟩, hs21⟩ hm
   replace hm : unpack_B0 ws n_ k18 q16 p17 = some r := hm
   unfold unpack_B0 at hm
   refine W.sr fun K22 hK22 => ?_
   refine zE 1 (hK22 _ _ ?_)
   refine W.seq fun K23 hK23 => ?_
   refine W.cond (decide (p17 < (n_.toNat : Int))) (by kernel_rfl) (fun h24 => ?_) (fun h24 => ?_)
   ·
    obtain ⟨h24p, hm⟩ := iY hm h24
    refine W.skip ?_
    refine hK23 _ _ ?_
    refine W.seq fun K25 hK25 => ?_
    refine W.block ?_
    refine W.sr fun K26 hK26 => ?_
    refine zE 2 (hK26 _ _ ?_)
    refine W.region ?_
    refine zR 4 ?_
    obtain ⟨h27, hm⟩ := need_some hm
    refine ops_R (v := .int .i64 (p17.tdiv 8)) (runs_quo (k := .i64) (a := p17) (b := 8) (by kernel_rfl) (by decide) (wrap_i64 h27.1 h27.2)) ?_
    obtain ⟨h29, hm⟩ := need_some hm
    have hk28 := lt_toNat h29
    refine ops_R (runs_index (a := wa) (n := ws.length) (z := (p17.tdiv 8)) (size := 1) ((p17.tdiv 8).toNat) (nat_of h29.1) hk28 (kU64.addr (hs21.oldCells hw) hk28) (by kernel_rfl)) ?_
    refine zL ((adr wa (((p17.tdiv 8).toNat) * 1)).add 0) (.int .u64 (ws.getD ((p17.tdiv 8).toNat) 0)) (kU64.at (hs21.oldCells hw) hk28 0 0 rfl) ?_
    refine zR 2 ?_
    obtain ⟨h30, hm⟩ := need_some hm
    refine zI _ (wrap_i64 h30.1 h30.2) ?_
    obtain ⟨h31, hm⟩ := need_some hm
    refine ops_R (v := .int .u64 (shrK .u64 (ws.getD ((p17.tdiv 8).toNat) 0) (8 * p17.tmod 8))) (runs_shift (b := false) (k := .u64) (x := (ws.getD ((p17.tdiv 8).toNat) 0)) (y := (8 * p17.tmod 8)) (by kernel_rfl) h31) ?_
    refine ops_val (v := .int .u8 (IntKind.u8.wrap (shrK .u64 (ws.getD ((p17.tdiv 8).toNat) 0) (8 * p17.tmod 8)))) (v' := .int .u8 ((shrK .u64 (ws.getD ((p17.tdiv 8).toNat) 0) (8 * p17.tmod 8)) % 256)) (by kernel_rfl) (congrArg (Value.int .u8) (wrap_u8_mod _)) ?_
    obtain ⟨h33, hm⟩ := need_some hm
    have hk32 := lt_toNat h33
    obtain ⟨h35, hm⟩ := need_some hm
    have hk34 := h35
    refine ops_R (runs_index (a := (some ⟨b10, 0, none⟩)) (n := n_.toNat) (z := p17) (size := 1) p17.toNat (nat_of h33.1) hk32 (kU8.addr (St.kcells kU8 hs21 0 rfl) hk34) (by kernel_rfl)) ?_
    refine ops_storeK kU8 (j := 0) (vs := [(.int .u8 ((shrK .u64 (ws.getD ((p17.tdiv 8).toNat) 0) (8 * p17.tmod 8)) % 256))]) 0 ((shrK .u64 (ws.getD ((p17.tdiv 8).toNat) 0) (8 * p17.tmod 8)) % 256) hs21 hk34 (Nat.le_of_ble_eq_true rfl) (by simp) rfl rfl (by kernel_rfl) (fun w36 hs37 => ?_)
    refine zD ?_
    refine normal_block ?_
    refine hK25 _ _ ?_
    refine W.region ?_
    obtain ⟨h39, hm⟩ := need_some hm
    refine zI _ (wrap_i64 h39.1 h39.2) ?_
    refine zE 1 ?_
    refine loopAt_next ?_
    exact ih19 ((q16.set p17.toNat ((shrK .u64 (ws.getD ((p17.tdiv 8).toNat) 0) (8 * p17.tmod 8)) % 256)), (p17 + 1)) _ _ ⟨slots_intro _ (by kernel_rfl), hs37⟩ hm
   ·
    obtain ⟨h24p, hm⟩ := iN hm h24
    refine W.exit (exit_seq (exit_seq (exit_here ?_)))
    refine hK14 _ _ ?_
    refine W.sr fun K40 hK40 => ?_
    refine zR 1 ?_
    obtain ⟨h41, hm⟩ := need_some hm
    refine ops_R (runs_bytesStr (a := (some ⟨b10, 0, none⟩)) (n := n_.toNat) (c := n_.toNat) (xs := q16) (St.kcells kU8 hs21 0 rfl) h41 (by kernel_rfl)) ?_
    refine zE 2 (hK40 _ _ ?_)
    refine W.ret ?_
    obtain rfl := some_inj hm
    have hs42 := St.tk0 hs21
    refine ret_of (.tuple #[(.string (strOfNums q16)), (.int .i64 0)]) (by kernel_rfl) ⟨_, ⟨rfl, rfl⟩, hs42⟩

end Go.Proofs.YtmmclabkkigiaaaGreatDoor

set_option linter.unusedVariables false
set_option maxRecDepth 20000
set_option maxHeartbeats 8000000
namespace Go.Proofs.YtmmclabkkigiaaaGreatDoor
open Go Go.RowKit
set_option linter.unusedSimpArgs false
set_option linter.unusedVariables false

def tentry_J4 (img : List Int) (l : List (Int × Int)) (r31 : Int) (r63 : ByteArray × Int) (p69 : Bool) : Option (ByteArray × Int × Int) :=
 if p69 = true then (some (ByteArray.empty, 0, 4)) else (need (-9223372036854775808 ≤ (vget img l r31) ∧ (vget img l r31) ≤ 9223372036854775807) <|
some (r63.1, (vget img l r31), 0))

def tentry_J3 (img : List Int) (l : List (Int × Int)) (r31 : Int) (q58 : List Int) : Option (ByteArray × Int × Int) :=
 need (-9223372036854775808 ≤ (vget img l (r31 + 1)) ∧ (vget img l (r31 + 1)) ≤ 9223372036854775807) <|
(unpack_M q58 (vget img l (r31 + 1))).bind fun r63 =>
if r63.2 = 0 then ((emay_M r63.1).bind fun r89 =>
tentry_J4 img l r31 r63 (!r89)) else (tentry_J4 img l r31 r63 true)

def tentry_B0 (img : List Int) (l : List (Int × Int)) (r31 : Int) (k99 : ((List Int) × Int) → Option (ByteArray × Int × Int)) (q97 : List Int) (p98 : Int) : Option (ByteArray × Int × Int) :=
 if p98 < 8 then (need (-9223372036854775808 ≤ (r31 + p98) ∧ (r31 + p98) ≤ 9223372036854775807) <|
need (q97.length + 1 ≤ 1000000000) <|
need (-9223372036854775808 ≤ (p98 + 1) ∧ (p98 + 1) ≤ 9223372036854775807) <|
k99 ((q97 ++ [(vget img l (r31 + p98))]), (p98 + 1))) else (tentry_J3 img l r31 q97)

def tentry_J2 (img : List Int) (l : List (Int × Int)) (k_ : Int) (r31 : Int) (p43 : Bool) : Option (ByteArray × Int × Int) :=
 if p43 = true then (some (ByteArray.empty, 0, 4)) else (iter (fun k_ s_ => tentry_B0 img l r31 k_ s_.1 s_.2) FUEL ([], 2))

def tentry_J1 (img : List Int) (l : List (Int × Int)) (gw : Int) (gi : Int) (gb : Int) (k_ : Int) (r9 : Int × Int) (p15 : Bool) : Option (ByteArray × Int × Int) :=
 if p15 = true then (some (ByteArray.empty, 0, r9.2)) else ((some (placeOf 9 gw gi gb r9.1)).bind fun r31 =>
need (-9223372036854775808 ≤ (r31 + 1) ∧ (r31 + 1) ≤ 9223372036854775807) <|
if (vget img l r31) < 1 then (tentry_J2 img l k_ r31 true) else (need (0 ≤ gi ∧ gi ≤ 18446744073709551615) <|
if (vget img l r31) ≥ gi then (tentry_J2 img l k_ r31 true) else (tentry_J2 img l k_ r31 (decide ((vget img l (r31 + 1)) > 40)))))

def tentry_M (img : List Int) (l : List (Int × Int)) (gw : Int) (gi : Int) (gb : Int) (n_ : Int) (k_ : Int) : Option (ByteArray × Int × Int) :=
 (bat_M img l gw gi gb n_ k_).bind fun r9 =>
if r9.2 = 0 then (tentry_J1 img l gw gi gb k_ r9 (decide (r9.1 = 0))) else (tentry_J1 img l gw gi gb k_ r9 true)

theorem tentry_walk {img : List Int} {l : List (Int × Int)} {gw : Int} {gi : Int} {gb : Int} {n_ : Int} {k_ : Int} {mb vb : Nat} {r : ByteArray × Int × Int} (B : Nat) (w : World) (hm : tentry_M img l gw gi gb n_ k_ = some r) : Spec Tryz.prog 48 #[(.agg #[(.pointer (some ⟨vb, 0, none⟩)), (.int .i64 gw), (.int .i64 gi), (.int .i64 gb), (.pointer (some ⟨mb, 0, none⟩))]), (.int .i64 k_)] B w [blk mb (.cells [(.pointer (some ⟨vb, 0, none⟩)), (.int .i64 gw), (.int .i64 gi), (.int .i64 gb), (.int .i64 n_)].toArray 164 (0, 0)), viewA (ptr vb) img l] (fun v H' => v = (.tuple #[(.agg #[(.string r.1), (.int .i64 r.2.1)]), (.int .i64 r.2.2)]) ∧ H' = [blk mb (.cells [(.pointer (some ⟨vb, 0, none⟩)), (.int .i64 gw), (.int .i64 gi), (.int .i64 gb), (.int .i64 n_)].toArray 164 (0, 0)), viewA (ptr vb) img l]) := by
 refine spec_W Tryz.func48 rfl fun l0 hs => ?_
 unfold tentry_M at hm
 refine W.sr fun K1 hK1 => ?_
 refine zN [(.pointer (some ⟨vb, 0, none⟩)), (.int .i64 gw), (.int .i64 gi), (.int .i64 gb), (.pointer (some ⟨mb, 0, none⟩))] 97 hs fun b4 w2 hs3 => ?_
 refine zN [(.string ByteArray.empty), (.int .i64 0)] 33 hs3 fun b7 w5 hs6 => ?_
 refine zE 1 (hK1 _ _ ?_)
 refine W.sr fun K8 hK8 => ?_
 refine zR 1 ?_
 refine zL ⟨b4, 4, none⟩ (.pointer (some ⟨mb, 0, none⟩)) (hs6.cellAt 1 rfl rfl) ?_
 refine zR 1 ?_
 obtain ⟨r9, h10, hm⟩ := bind_some hm
 refine zC00 hs6 (bat_walk (k_ := k_) (img := img) (l := l) (gw := gw) (gi := gi) (gb := gb) (n_ := n_) (hmb := (hs6.heapAt 2 rfl)) (hv := (hs6.entAt 3 rfl viewA_at)) (hm := h10) B _) fun w11 hs13 => ?_
 refine zE 5 (hK8 _ _ ?_)
 refine W.seq fun K14 hK14 => ?_
 refine W.seq_join (fun s_ w_ => ∃ (p15 : Bool), (∃ us, s_ = slots 89 [(2, (.pointer (some ⟨b4, 0, none⟩))), (4, (.pointer (some ⟨b7, 0, none⟩))), (6, (.int .i64 r9.1)), (7, (.int .i64 r9.2)), (26, (.bool p15))] us) ∧ St B w l0 w_ [viewA (ptr vb) img l, blk mb (.cells [(.pointer (some ⟨vb, 0, none⟩)), (.int .i64 gw), (.int .i64 gi), (.int .i64 gb), (.int .i64 n_)].toArray 164 (0, 0)), blk b4 (.cells [(.pointer (some ⟨vb, 0, none⟩)), (.int .i64 gw), (.int .i64 gi), (.int .i64 gb), (.pointer (some ⟨mb, 0, none⟩))].toArray 97 (0, 0)), blk b7 (.cells [(.string ByteArray.empty), (.int .i64 0)].toArray 33 (0, 0))] ∧ tentry_J1 img l gw gi gb k_ r9 p15 = some r) ?_ ?_
 ·
  rintro _ w16 ⟨p15, ⟨us, rfl⟩, hs17, hm⟩
  unfold tentry_J1 at hm
  refine W.cond p15 (by kernel_rfl) (fun h18 => ?_) (fun h18 => ?_)
  ·
   have h18p : p15 = true := h18
   replace hm := ite_yes hm h18p
   refine W.sr fun K19 hK19 => ?_
   refine zR 2 ?_
   have hs22 := St.f3 hs17
   refine ops_store (off := 0) (cs := [(.string ByteArray.empty), (.int .i64 0)]) (vs := [(.string ByteArray.empty), (.int .i64 0)]) hs22 (by kernel_rfl) (by simp) rfl (fun w20 hs21 => ?_)
   have hs23 : St B w l0 w20 [blk b7 (.cells [(.string ByteArray.empty), (.int .i64 0)].toArray 33 (0, 0)), viewA (ptr vb) img l, blk mb (.cells [(.pointer (some ⟨vb, 0, none⟩)), (.int .i64 gw), (.int .i64 gi), (.int .i64 gb), (.int .i64 n_)].toArray 164 (0, 0)), blk b4 (.cells [(.pointer (some ⟨vb, 0, none⟩)), (.int .i64 gw), (.int .i64 gi), (.int .i64 gb), (.pointer (some ⟨mb, 0, none⟩))].toArray 97 (0, 0))] := hs21
   refine zE 1 (hK19 _ _ ?_)
   refine W.ret (ret_seq ?_)
   obtain rfl := some_inj hm
   have hs24 := St.f1 hs23
   have hs25 := St.f2 hs24
   have hs26 := St.tk2 hs25
   refine ret_of (.tuple #[(.agg #[(.string ByteArray.empty), (.int .i64 0)]), (.int .i64 r9.2)]) (resS_of (by kernel_rfl) (resD_two rfl (.agg (ad := ⟨b7, 0, none⟩) (cs := [(.string ByteArray.empty), (.int .i64 0)]) (by kernel_rfl) (by kernel_rfl) (cells_sub (hs23.heapAt 0 rfl) rfl)) (.tmp (by kernel_rfl)))) ⟨_, ⟨rfl, rfl⟩, hs26⟩
  ·
   have h18p : ¬ (p15 = true) := ne_true_of_eq_false h18
   replace hm := ite_no hm h18p
   refine W.skip ?_
   refine hK14 _ _ ?_
   refine W.sr fun K27 hK27 => ?_
   refine zR 1 ?_
   refine ops_R (runs_loadAgg (ad := ⟨b4, 1, none⟩) (cs := [(.int .i64 gw), (.int .i64 gi), (.int .i64 gb)]) (by kernel_rfl) (cells_sub (hs17.heapAt 2 rfl) rfl)) ?_
   refine zR 1 ?_
   refine zC00 hs17 (blockat_spec (gw := gw) (gi := gi) (gb := gb) (n_ := r9.1) B _) fun w28 hs30 => ?_
   refine zR 1 ?_
   obtain ⟨r31, h32, hm⟩ := bind_some hm
   replace h32 := some_inj h32
   refine ops_set 8 (v := .int .i64 r31) (Eq.trans (by kernel_rfl) (congrArg (Value.int .i64) h32)) ?_
   refine zD (hK27 _ _ ?_)
   refine W.seq fun K33 hK33 => ?_
   have hs34 := hs30.drew
   refine W.regionD [(0, 0), (1, 1), (0, 0), (6, 6), (0, 0), (16, 16), (0, 0), (64, 64), (168, 160), (271, 8), (1023, 256)] (fun w_ => St B w l0 w_ [viewA (ptr vb) img l, blk mb (.cells [(.pointer (some ⟨vb, 0, none⟩)), (.int .i64 gw), (.int .i64 gi), (.int .i64 gb), (.int .i64 n_)].toArray 164 (0, 0)), blk b4 (.cells [(.pointer (some ⟨vb, 0, none⟩)), (.int .i64 gw), (.int .i64 gi), (.int .i64 gb), (.pointer (some ⟨mb, 0, none⟩))].toArray 97 (0, 0)), blk b7 (.cells [(.string ByteArray.empty), (.int .i64 0)].toArray 33 (0, 0))]) (by kernel_rfl) hs34 ?_
   refine any_val (v := (.pointer (some ⟨b4, 0, none⟩))) (v' := (.pointer (some ⟨b4, 0, none⟩))) 0 (by kernel_rfl) (fun _ => by kernel_rfl) rfl hs34 ?_
   refine any_R 1 (by kernel_rfl) (fun _ hS_ => runs_load (ad := ⟨b4, 0, none⟩) (v := (.pointer (some ⟨vb, 0, none⟩))) (by kernel_rfl) (hS_.cellAt 2 rfl rfl)) hs34 ?_
   refine any_val (v := (.int .i64 r31)) (v' := (.int .i64 r31)) 2 (by kernel_rfl) (fun _ => by kernel_rfl) rfl hs34 ?_
   refine any_val (v := (.pointer (some ⟨b4, 0, none⟩))) (v' := (.pointer (some ⟨b4, 0, none⟩))) 4 (by kernel_rfl) (fun _ => by kernel_rfl) rfl hs34 ?_
   refine any_R 5 (by kernel_rfl) (fun _ hS_ => runs_load (ad := ⟨b4, 0, none⟩) (v := (.pointer (some ⟨vb, 0, none⟩))) (by kernel_rfl) (hS_.cellAt 2 rfl rfl)) hs34 ?_
   refine any_val (v := (.int .i64 r31)) (v' := (.int .i64 r31)) 6 (by kernel_rfl) (fun _ => by kernel_rfl) rfl hs34 ?_
   obtain ⟨h35, hm⟩ := need_some hm
   refine any_val (v := .int .i64 (IntKind.i64.wrap (r31 + 1))) (v' := .int .i64 (r31 + 1)) 7 (by kernel_rfl) (fun _ => by kernel_rfl) (congrArg (Value.int .i64) (wrap_i64 h35.1 h35.2)) hs34 ?_
   refine any_step 3 (by kernel_rfl) (by kernel_rfl) ?_
   refine zC00 hs34 (get_spec (at_ := r31) (hv := (hs34.entAt 0 rfl viewA_at)) B _) fun w36 hs38 => ?_
   refine ops_done (by kernel_rfl) ⟨hs38, ?_⟩
   refine any_step 8 (by kernel_rfl) (by kernel_rfl) ?_
   refine zC00 hs38 (get_spec (at_ := (r31 + 1)) (hv := (hs38.entAt 0 rfl viewA_at)) B _) fun w39 hs41 => ?_
   refine ops_done (by kernel_rfl) ⟨hs41, ?_⟩
   refine any_val (v := (.int .u64 (vget img l r31))) (v' := (.int .u64 (vget img l r31))) 9 (by kernel_rfl) (fun _ => by kernel_rfl) rfl hs41 ?_
   refine any_val (v := (.int .u64 (vget img l (r31 + 1)))) (v' := (.int .u64 (vget img l (r31 + 1)))) 10 (by kernel_rfl) (fun _ => by kernel_rfl) rfl hs41 ?_
   refine any_done (by kernel_rfl) ?_
   refine hK33 _ _ ?_
   refine W.seq fun K42 hK42 => ?_
   refine W.seq_join (fun s_ w_ => ∃ (p43 : Bool), (∃ us, s_ = slots 89 [(2, (.pointer (some ⟨b4, 0, none⟩))), (4, (.pointer (some ⟨b7, 0, none⟩))), (8, (.int .i64 r31)), (9, (.int .u64 (vget img l r31))), (10, (.int .u64 (vget img l (r31 + 1)))), (55, (.bool p43))] us) ∧ St B w l0 w_ [viewA (ptr vb) img l, blk mb (.cells [(.pointer (some ⟨vb, 0, none⟩)), (.int .i64 gw), (.int .i64 gi), (.int .i64 gb), (.int .i64 n_)].toArray 164 (0, 0)), blk b4 (.cells [(.pointer (some ⟨vb, 0, none⟩)), (.int .i64 gw), (.int .i64 gi), (.int .i64 gb), (.pointer (some ⟨mb, 0, none⟩))].toArray 97 (0, 0)), blk b7 (.cells [(.string ByteArray.empty), (.int .i64 0)].toArray 33 (0, 0))] ∧ tentry_J2 img l k_ r31 p43 = some r) ?_ ?_
   ·
    rintro _ w44 ⟨p43, ⟨us, rfl⟩, hs45, hm⟩
    unfold tentry_J2 at hm
    refine W.cond p43 (by kernel_rfl) (fun h46 => ?_) (fun h46 => ?_)
    ·
     have h46p : p43 = true := h46
     replace hm := ite_yes hm h46p
     refine W.sr fun K47 hK47 => ?_
     refine zR 1 ?_
     have hs50 := St.f3 hs45
     refine ops_store (off := 0) (cs := [(.string ByteArray.empty), (.int .i64 0)]) (vs := [(.string ByteArray.empty), (.int .i64 0)]) hs50 (by kernel_rfl) (by simp) rfl (fun w48 hs49 => ?_)
     have hs51 : St B w l0 w48 [blk b7 (.cells [(.string ByteArray.empty), (.int .i64 0)].toArray 33 (0, 0)), viewA (ptr vb) img l, blk mb (.cells [(.pointer (some ⟨vb, 0, none⟩)), (.int .i64 gw), (.int .i64 gi), (.int .i64 gb), (.int .i64 n_)].toArray 164 (0, 0)), blk b4 (.cells [(.pointer (some ⟨vb, 0, none⟩)), (.int .i64 gw), (.int .i64 gi), (.int .i64 gb), (.pointer (some ⟨mb, 0, none⟩))].toArray 97 (0, 0))] := hs49
     refine zE 1 (hK47 _ _ ?_)
     refine W.ret (ret_seq ?_)
     obtain rfl := some_inj hm
     have hs52 := St.f1 hs51
     have hs53 := St.f2 hs52
     have hs54 := St.tk2 hs53
     refine ret_of (.tuple #[(.agg #[(.string ByteArray.empty), (.int .i64 0)]), (.int .i64 4)]) (resS_of (by kernel_rfl) (resD_two rfl (.agg (ad := ⟨b7, 0, none⟩) (cs := [(.string ByteArray.empty), (.int .i64 0)]) (by kernel_rfl) (by kernel_rfl) (cells_sub (hs51.heapAt 0 rfl) rfl)) (.tmp (by kernel_rfl)))) ⟨_, ⟨rfl, rfl⟩, hs54⟩
    ·
     have h46p : ¬ (p43 = true) := ne_true_of_eq_false h46
     replace hm := ite_no hm h46p
     refine W.skip ?_
     refine hK42 _ _ ?_
     refine W.sr fun K55 hK55 => ?_
     refine zE 1 (hK55 _ _ ?_)
     refine W.seq_join (fun s_ w_ => ∃ (q58 : List Int) (m56 : Option Addr) (m57 : Nat), (∃ us, s_ = slots 89 [(4, (.pointer (some ⟨b7, 0, none⟩))), (9, (.int .u64 (vget img l r31))), (10, (.int .u64 (vget img l (r31 + 1)))), (11, (.slice m56 q58.length m57))] us) ∧ St B w l0 w_ [blk b7 (.cells [(.string ByteArray.empty), (.int .i64 0)].toArray 33 (0, 0)), kU64.row m56 m57 q58, viewA (ptr vb) img l, blk mb (.cells [(.pointer (some ⟨vb, 0, none⟩)), (.int .i64 gw), (.int .i64 gi), (.int .i64 gb), (.int .i64 n_)].toArray 164 (0, 0)), blk b4 (.cells [(.pointer (some ⟨vb, 0, none⟩)), (.int .i64 gw), (.int .i64 gi), (.int .i64 gb), (.pointer (some ⟨mb, 0, none⟩))].toArray 97 (0, 0))] ∧ tentry_J3 img l r31 q58 = some r) ?_ ?_
     ·
      rintro _ w59 ⟨q58, m56, m57, ⟨us, rfl⟩, hs60, hm⟩
      unfold tentry_J3 at hm
      refine W.sr fun K61 hK61 => ?_
      refine zR 2 ?_
      obtain ⟨h62, hm⟩ := need_some hm
      refine zI _ (wrap_i64 h62.1 h62.2) ?_
      obtain ⟨r63, h64, hm⟩ := bind_some hm
      refine zC00 hs60 (unpack_walk (ws := q58) (n_ := (vget img l (r31 + 1))) (wa := m56) (wc := m57) (hw := (St.kcells kU64 hs60 1 rfl)) (hm := h64) B _) fun w65 hs67 => ?_
      refine zE 5 (hK61 _ _ ?_)
      refine W.seq fun K68 hK68 => ?_
      refine W.seq_join (fun s_ w_ => ∃ (p69 : Bool), (∃ us, s_ = slots 89 [(4, (.pointer (some ⟨b7, 0, none⟩))), (9, (.int .u64 (vget img l r31))), (13, (.string r63.1)), (83, (.bool p69))] us) ∧ St B w l0 w_ [blk b7 (.cells [(.string ByteArray.empty), (.int .i64 0)].toArray 33 (0, 0)), kU64.row m56 m57 q58, viewA (ptr vb) img l, blk mb (.cells [(.pointer (some ⟨vb, 0, none⟩)), (.int .i64 gw), (.int .i64 gi), (.int .i64 gb), (.int .i64 n_)].toArray 164 (0, 0)), blk b4 (.cells [(.pointer (some ⟨vb, 0, none⟩)), (.int .i64 gw), (.int .i64 gi), (.int .i64 gb), (.pointer (some ⟨mb, 0, none⟩))].toArray 97 (0, 0))] ∧ tentry_J4 img l r31 r63 p69 = some r) ?_ ?_
      ·
       rintro _ w70 ⟨p69, ⟨us, rfl⟩, hs71, hm⟩
       unfold tentry_J4 at hm
       refine W.cond p69 (by kernel_rfl) (fun h72 => ?_) (fun h72 => ?_)
       ·
        have h72p : p69 = true := h72
        replace hm := ite_yes hm h72p
        refine W.sr fun K73 hK73 => ?_
        refine zR 1 ?_
        refine ops_store (off := 0) (cs := [(.string ByteArray.empty), (.int .i64 0)]) (vs := [(.string ByteArray.empty), (.int .i64 0)]) hs71 (by kernel_rfl) (by simp) rfl (fun w74 hs75 => ?_)
        have hs76 : St B w l0 w74 [blk b7 (.cells [(.string ByteArray.empty), (.int .i64 0)].toArray 33 (0, 0)), kU64.row m56 m57 q58, viewA (ptr vb) img l, blk mb (.cells [(.pointer (some ⟨vb, 0, none⟩)), (.int .i64 gw), (.int .i64 gi), (.int .i64 gb), (.int .i64 n_)].toArray 164 (0, 0)), blk b4 (.cells [(.pointer (some ⟨vb, 0, none⟩)), (.int .i64 gw), (.int .i64 gi), (.int .i64 gb), (.pointer (some ⟨mb, 0, none⟩))].toArray 97 (0, 0))] := hs75
        refine zE 1 (hK73 _ _ ?_)
        refine W.ret (ret_seq ?_)
        obtain rfl := some_inj hm
        have hs77 := St.f2 hs76
        have hs78 := St.f3 hs77
        have hs79 := St.tk2 hs78
        refine ret_of (.tuple #[(.agg #[(.string ByteArray.empty), (.int .i64 0)]), (.int .i64 4)]) (resS_of (by kernel_rfl) (resD_two rfl (.agg (ad := ⟨b7, 0, none⟩) (cs := [(.string ByteArray.empty), (.int .i64 0)]) (by kernel_rfl) (by kernel_rfl) (cells_sub (hs76.heapAt 0 rfl) rfl)) (.tmp (by kernel_rfl)))) ⟨_, ⟨rfl, rfl⟩, hs79⟩
       ·
        have h72p : ¬ (p69 = true) := ne_true_of_eq_false h72
        replace hm := ite_no hm h72p
        refine W.skip ?_
        refine hK68 _ _ ?_
        refine W.sr fun K80 hK80 => ?_
        refine zR 2 ?_
        obtain ⟨h81, hm⟩ := need_some hm
        refine zI _ (wrap_i64 h81.1 h81.2) ?_
        refine zR 1 ?_
        refine ops_store (off := 0) (cs := [(.string ByteArray.empty), (.int .i64 0)]) (vs := [(.string r63.1), (.int .i64 (vget img l r31))]) hs71 (by kernel_rfl) (by simp) rfl (fun w82 hs83 => ?_)
        have hs84 : St B w l0 w82 [blk b7 (.cells [(.string r63.1), (.int .i64 (vget img l r31))].toArray 33 (0, 0)), kU64.row m56 m57 q58, viewA (ptr vb) img l, blk mb (.cells [(.pointer (some ⟨vb, 0, none⟩)), (.int .i64 gw), (.int .i64 gi), (.int .i64 gb), (.int .i64 n_)].toArray 164 (0, 0)), blk b4 (.cells [(.pointer (some ⟨vb, 0, none⟩)), (.int .i64 gw), (.int .i64 gi), (.int .i64 gb), (.pointer (some ⟨mb, 0, none⟩))].toArray 97 (0, 0))] := hs83
        refine zE 1 (hK80 _ _ ?_)
        refine W.ret ?_
        obtain rfl := some_inj hm
        have hs85 := St.f2 hs84
        have hs86 := St.f3 hs85
        have hs87 := St.tk2 hs86
        refine ret_of (.tuple #[(.agg #[(.string r63.1), (.int .i64 (vget img l r31))]), (.int .i64 0)]) (resS_of (by kernel_rfl) (resD_two rfl (.agg (ad := ⟨b7, 0, none⟩) (cs := [(.string r63.1), (.int .i64 (vget img l r31))]) (by kernel_rfl) (by kernel_rfl) (cells_sub (hs84.heapAt 0 rfl) rfl)) (.tmp (by kernel_rfl)))) ⟨_, ⟨rfl, rfl⟩, hs87⟩
      ·
       refine W.region ?_
       refine zR 3 ?_
       rcases Bool.eq_false_or_eq_true (!decide (r63.2 = 0)) with h88 | h88
       rotate_left
       ·
        have h88p : r63.2 = 0 := of_decide_eq_true (bnot_false h88)
        replace hm := ite_yes hm h88p
        refine zS 79 h88 ?_
        refine zS 78 h88 ?_
        refine zR 1 ?_
        obtain ⟨r89, h90, hm⟩ := bind_some hm
        refine zC00 hs67 (emay_walk (tx_ := r63.1) (hm := h90) B _) fun w91 hs93 => ?_
        refine zE 2 ?_
        exact ⟨(!r89), slots_intro _ (by kernel_rfl), hs93, hm⟩
       ·
        have h88p : ¬ (r63.2 = 0) := of_decide_eq_false (bnot_true h88)
        replace hm := ite_no hm h88p
        refine zS 79 h88 ?_
        refine zS 78 h88 ?_
        refine zE 4 ?_
        exact ⟨true, slots_intro _ (by kernel_rfl), hs67, hm⟩
     ·
      refine W.sr fun K94 hK94 => ?_
      refine zE 1 (hK94 _ _ ?_)
      refine W.block ?_
      have hs103 := St.knil kU64 hs45
      have hs104 := St.f4 hs103
      have hs105 := St.f4 hs104
      have hs106 := St.f4 hs105
      have hs107 := St.f4 hs106
      refine W.loop_iter (G := (List Int) × Int × (Option Addr) × Nat) (σ := (List Int) × Int) (fun | (q97, p98, m95, m96) => (q97, p98)) (fun | (q97, p98, m95, m96), s_, w_ => (∃ us, s_ = slots 89 [(2, (.pointer (some ⟨b4, 0, none⟩))), (4, (.pointer (some ⟨b7, 0, none⟩))), (8, (.int .i64 r31)), (9, (.int .u64 (vget img l r31))), (10, (.int .u64 (vget img l (r31 + 1)))), (11, (.slice m95 q97.length m96)), (12, (.int .i64 p98))] us) ∧ St B w l0 w_ [viewA (ptr vb) img l, blk mb (.cells [(.pointer (some ⟨vb, 0, none⟩)), (.int .i64 gw), (.int .i64 gi), (.int .i64 gb), (.int .i64 n_)].toArray 164 (0, 0)), blk b4 (.cells [(.pointer (some ⟨vb, 0, none⟩)), (.int .i64 gw), (.int .i64 gi), (.int .i64 gb), (.pointer (some ⟨mb, 0, none⟩))].toArray 97 (0, 0)), blk b7 (.cells [(.string ByteArray.empty), (.int .i64 0)].toArray 33 (0, 0)), kU64.row m95 m96 q97]) ([], 2, none, 0) ⟨slots_intro _ (by kernel_rfl), hs107⟩ hm ?_
      rintro k99 ih100 ⟨q97, p98, m95, m96⟩ _ w101 ⟨⟨us, rfl⟩, hs102⟩ hm
      replace hm : tentry_B0 img l r31 k99 q97 p98 = some r := hm
      unfold tentry_B0 at hm
      refine W.seq fun K108 hK108 => ?_
      refine W.sr fun K109 hK109 => ?_
      refine zE 2 (hK109 _ _ ?_)
      refine W.cond (decide (p98 < 8)) (by kernel_rfl) (fun h110 => ?_) (fun h110 => ?_)
      ·
       obtain ⟨h110p, hm⟩ := iY hm h110
       refine W.skip ?_
       refine hK108 _ _ ?_
       refine W.seq fun K111 hK111 => ?_
       refine W.block ?_
       refine W.region ?_
       refine zR 2 ?_
       refine zL ⟨b4, 0, none⟩ (.pointer (some ⟨vb, 0, none⟩)) (hs102.cellAt 2 rfl rfl) ?_
       refine zR 2 ?_
       obtain ⟨h112, hm⟩ := need_some hm
       refine zI _ (wrap_i64 h112.1 h112.2) ?_
       refine zC00 hs102 (get_spec (at_ := (r31 + p98)) (hv := (hs102.entAt 0 rfl viewA_at)) B _) fun w113 hs115 => ?_
       refine ops_new (fun b => .slice (some ⟨b, 0, none⟩) 1 1) (.cells [(.int .u64 (vget img l (r31 + p98)))].toArray 25 (0, 0)) hs115 (by kernel_rfl) (fun b118 w116 hs117 => ?_)
       have hs119 := St.f5 hs117
       obtain ⟨h124, hm⟩ := need_some hm
       refine ops_appendK kU64 (bytes := 8) (a' := (some ⟨b118, 0, none⟩)) (c' := 1) (l := q97) (m := [(vget img l (r31 + p98))]) hs119 (by kernel_rfl) (by simp) (cells_blk (hs119.heapAt 1 rfl)) (by unfold maxLen; (try simp only [List.length_cons, List.length_nil]); omega) (by (try simp only [List.length_cons, List.length_nil]); omega) (fun a120 c121 w122 hs123 => ?_)
       refine zE 1 ?_
       refine normal_block ?_
       refine hK111 _ _ ?_
       refine W.region ?_
       refine zR 1 ?_
       obtain ⟨h125, hm⟩ := need_some hm
       refine zI _ (wrap_i64 h125.1 h125.2) ?_
       refine zE 1 ?_
       have hs126 := St.f5 hs123
       have hs127 := St.f5 hs126
       have hs128 := St.f5 hs127
       have hs129 := St.f5 hs128
       have hs130 := St.tk5 hs129
       refine loopAt_next ?_
       exact ih100 ((q97 ++ [(vget img l (r31 + p98))]), (p98 + 1), a120, c121) _ _ ⟨slots_intro _ (by kernel_rfl), hs130⟩ hm
      ·
       obtain ⟨h110p, hm⟩ := iN hm h110
       refine W.exit (exit_seq (exit_seq (exit_here ?_)))
       have hs131 := St.f2 hs102
       have hs132 := St.f2 hs131
       have hs133 := St.f2 hs132
       have hs134 := St.f4 hs133
       have hs135 := St.f4 hs134
       exact ⟨q97, m95, m96, slots_intro _ (by kernel_rfl), hs135, hm⟩
   ·
    refine W.region ?_
    refine zR 3 ?_
    rcases Bool.eq_false_or_eq_true (decide ((vget img l r31) < 1)) with h136 | h136
    ·
     obtain ⟨h136p, hm⟩ := iY hm h136
     refine zS 44 h136 ?_
     refine zS 43 h136 ?_
     refine zE 11 ?_
     exact ⟨true, slots_intro _ (by kernel_rfl), hs41, hm⟩
    ·
     obtain ⟨h136p, hm⟩ := iN hm h136
     refine zS 44 h136 ?_
     refine zS 43 h136 ?_
     refine zR 3 ?_
     refine zL ⟨b4, 2, none⟩ (.int .i64 gi) (hs41.cellAt 2 rfl rfl) ?_
     obtain ⟨h137, hm⟩ := need_some hm
     refine zI _ (wrap_u64 h137.1 (Int.lt_of_le_of_lt h137.2 (by decide))) ?_
     refine zR 3 ?_
     rcases Bool.eq_false_or_eq_true (decide ((vget img l r31) ≥ gi)) with h138 | h138
     ·
      obtain ⟨h138p, hm⟩ := iY hm h138
      refine zS 52 h138 ?_
      refine zS 50 h138 ?_
      refine zS 51 h138 ?_
      refine zE 3 ?_
      exact ⟨true, slots_intro _ (by kernel_rfl), hs41, hm⟩
     ·
      obtain ⟨h138p, hm⟩ := iN hm h138
      refine zS 52 h138 ?_
      refine zS 50 h138 ?_
      refine zS 51 h138 ?_
      refine zE 3 ?_
      exact ⟨(decide ((vget img l (r31 + 1)) > 40)), slots_intro _ (by kernel_rfl), hs41, hm⟩
 ·
  refine W.region ?_
  refine zR 3 ?_
  rcases Bool.eq_false_or_eq_true (!decide (r9.2 = 0)) with h139 | h139
  rotate_left
  ·
   have h139p : r9.2 = 0 := of_decide_eq_true (bnot_false h139)
   replace hm := ite_yes hm h139p
   refine zS 23 h139 ?_
   refine zS 22 h139 ?_
   refine zE 3 ?_
   have hs140 := St.f1 hs13
   have hs141 := St.f2 hs140
   have hs142 := St.f3 hs141
   exact ⟨(decide (r9.1 = 0)), slots_intro _ (by kernel_rfl), hs142, hm⟩
  ·
   have h139p : ¬ (r9.2 = 0) := of_decide_eq_false (bnot_true h139)
   replace hm := ite_no hm h139p
   refine zS 23 h139 ?_
   refine zS 22 h139 ?_
   refine zE 3 ?_
   have hs143 := St.f1 hs13
   have hs144 := St.f2 hs143
   have hs145 := St.f3 hs144
   exact ⟨true, slots_intro _ (by kernel_rfl), hs145, hm⟩

end Go.Proofs.YtmmclabkkigiaaaGreatDoor

set_option maxRecDepth 20000
set_option maxHeartbeats 2000000
namespace Go.Proofs.YtmmclabkkigiaaaGreatDoor
open Go Go.RowKit
set_option linter.unusedSimpArgs false
set_option linter.unusedVariables false

theorem around_spec {f_ : Int} (B : Nat) (w : World) : Spec Tryz.prog 47 #[(.int .i64 f_)] B w [] (fun v H' => ∃ b1, v = .func (.func 83) #[] #[ptr b1] ∧ H' = [blk b1 (.cells [(.int .i64 f_)].toArray 3 (0, 0))]) := by
 refine spec_Q Tryz.func47 rfl fun hs => ?_
 refine W.sr fun K1 hK1 => ?_
 refine zN [(.int .i64 f_)] 3 hs fun b4 w2 hs3 => ?_
 refine zE 1 (hK1 _ _ ?_)
 refine W.sr fun K5 hK5 => ?_
 refine zE 2 (hK5 _ _ ?_)
 refine W.ret ?_
 refine ret_of (.func (.func 83) #[] #[(.pointer (some ⟨b4, 0, none⟩))]) (by kernel_rfl) ⟨_, ⟨b4, rfl, rfl⟩, hs3⟩

theorem around1_spec {c1 yl : Nat} {f_ : Int} {Y : Nat → Asn} {Z : Asn} (B : Nat) (w : World) (hf : 0 ≤ f_ ∧ f_ ≤ 12) (hy : ∀ k : Nat, k < 12 → ∀ w', YSpec Tryz.prog yl #[(.int .i64 ((f_ + (k : Int)) % 12))] B w' [Y k] (fun v H' => (v = .bool true ∧ H' = [Y (k + 1)]) ∨ (v = .bool false ∧ H' = [Z]))) : Spec Tryz.prog 83 #[(.func (.yield yl) #[] #[]), (.pointer (some ⟨c1, 0, none⟩))] B w [blk c1 (.cells [(.int .i64 f_)].toArray 3 (0, 0)), Y 0] (fun v H' => v = .tuple #[] ∧ (H' = [blk c1 (.cells [(.int .i64 f_)].toArray 3 (0, 0)), Y 12] ∨ H' = [blk c1 (.cells [(.int .i64 f_)].toArray 3 (0, 0)), Z])) := by
 refine spec_W Tryz.func83 rfl fun l0 hs => ?_
 refine W.sr fun K1 hK1 => ?_
 refine zE 1 (hK1 _ _ ?_)
 refine W.block ?_
 refine W.loop (G := Nat) (fun | k, s_, w_ => (∃ us, s_ = slots 15 [(0, (.func (.yield yl) #[] #[])), (1, (.pointer (some ⟨c1, 0, none⟩))), (4, (.int .i64 ((k : Nat) : Int)))] us) ∧ St B w l0 w_ [blk c1 (.cells [(.int .i64 f_)].toArray 3 (0, 0)), Y k] ∧ (k ≤ 12)) (fun k => 12 - k) 0 ⟨slots_intro _ (by kernel_rfl), hs, by omega⟩ ?_
 rintro k _ w2 ⟨⟨us, rfl⟩, hs3, hk0⟩
 refine W.sr fun K4 hK4 => ?_
 refine zE 1 (hK4 _ _ ?_)
 refine W.seq fun K5 hK5 => ?_
 refine W.cond (decide (((k : Nat) : Int) < 12)) (by kernel_rfl) (fun h6 => ?_) (fun h6 => ?_)
 ·
  have h6p := of_decide_eq_true h6
  refine W.skip ?_
  refine hK5 _ _ ?_
  refine W.seq fun K7 hK7 => ?_
  refine W.block ?_
  refine W.sr fun K8 hK8 => ?_
  refine zE 2 (hK8 _ _ ?_)
  refine W.sr fun K9 hK9 => ?_
  refine zR 1 ?_
  refine zL ⟨c1, 0, none⟩ (.int .i64 f_) (hs3.cellAt 0 rfl rfl) ?_
  refine zR 1 ?_
  have h10 : -9223372036854775808 ≤ (f_ + ((k : Nat) : Int)) ∧ (f_ + ((k : Nat) : Int)) ≤ 9223372036854775807 := by omega
  refine zI _ (wrap_i64 h10.1 h10.2) ?_
  have h11 : 0 ≤ (f_ + ((k : Nat) : Int)) := by omega
  refine ops_R (v := .int .i64 ((f_ + ((k : Nat) : Int)) % 12)) (runs_rem (k := .i64) (a := (f_ + ((k : Nat) : Int))) (b := 12) (by kernel_rfl) (by decide) (Int.tmod_eq_emod_of_nonneg h11)) ?_
  have hs12 := St.f1 hs3
  refine ops_yield (pre := [Y k]) (l := yl) hs12 (by kernel_rfl) (by kernel_rfl) (hy k (by omega) _) ?_
  rintro _ _ w13 (⟨rfl, rfl⟩ | ⟨rfl, rfl⟩) hs14
  ·
   have hs15 : St B w l0 w13 [Y (k + 1), blk c1 (.cells [(.int .i64 f_)].toArray 3 (0, 0))] := hs14
   refine zE 1 (hK9 _ _ ?_)
   refine W.cond_false false (by kernel_rfl) rfl ?_
   refine W.skip ?_
   refine normal_block ?_
   refine hK7 _ _ ?_
   refine W.region ?_
   have h16 : -9223372036854775808 ≤ (((k : Nat) : Int) + 1) ∧ (((k : Nat) : Int) + 1) ≤ 9223372036854775807 := by omega
   refine zI _ (wrap_i64 h16.1 h16.2) ?_
   refine zE 1 ?_
   have hs17 := St.f1 hs15
   exact ⟨k + 1, ⟨slots_intro _ (by kernel_rfl), hs17, by omega⟩, by omega⟩
  ·
   have hs18 : St B w l0 w13 [Z, blk c1 (.cells [(.int .i64 f_)].toArray 3 (0, 0))] := hs14
   refine zE 1 (hK9 _ _ ?_)
   refine W.cond_true true (by kernel_rfl) rfl ?_
   refine W.ret (ret_block (ret_seq (ret_seq (ret_block ?_))))
   have hs19 := St.f1 hs18
   refine ret_of (.tuple #[]) (by kernel_rfl) ⟨_, ⟨rfl, .inr rfl⟩, hs19⟩
 ·
  have h6p := of_decide_eq_false h6
  refine W.exit (exit_seq (exit_seq (exit_here ?_)))
  have hn_ : k = 12 := by omega
  subst hn_
  refine ret_ofN (.tuple #[]) (by kernel_rfl) ⟨_, ⟨rfl, .inl rfl⟩, hs3⟩

end Go.Proofs.YtmmclabkkigiaaaGreatDoor

set_option linter.unusedVariables false
set_option maxRecDepth 20000
set_option maxHeartbeats 8000000
namespace Go.Proofs.YtmmclabkkigiaaaGreatDoor
open Go Go.RowKit
set_option linter.unusedSimpArgs false
set_option linter.unusedVariables false

def tfind_D40  : Option (ByteArray × Int × Int × Int) :=
 some (ByteArray.empty, 0, 0, 6)

def tfind_X40 (p41 : Int) (p42 : Int) (p43 : ByteArray) (p44 : Int) : Option (ByteArray × Int × Int × Int) :=
 some (p43, p44, p42, p41)

def tfind_R40 (img : List Int) (l : List (Int × Int)) (gw : Int) (gi : Int) (gb : Int) (n_ : Int) (tx_ : ByteArray) (r27 : Int) (k38 : Nat) (c39 : Unit → Option (ByteArray × Int × Int × Int)) : Option (ByteArray × Int × Int × Int) :=
 (some (((r27 : Int) + (k38 : Int)) % 12)).bind fun r104 =>
(tentry_M img l gw gi gb n_ r104).bind fun r109 =>
if r109.2.2 = 0 then (if r109.1 = tx_ ∧ r109.2.1 = r109.2.1 then (tfind_X40 0 r104 r109.1 r109.2.1) else (c39 ())) else (tfind_X40 r109.2.2 0 ByteArray.empty 0)

def tfind_M (img : List Int) (l : List (Int × Int)) (gw : Int) (gi : Int) (gb : Int) (n_ : Int) (tx_ : ByteArray) : Option (ByteArray × Int × Int × Int) :=
 (emay_M tx_).bind fun r19 =>
if r19 = true then ((ebegin_M tx_).bind fun r27 =>
need ((0 : Int) ≤ r27 ∧ (r27 : Int) ≤ 12) <|
rounds (fun k_ c_ s_ => tfind_R40 img l gw gi gb n_ tx_ r27 k_ c_) (fun s_ => tfind_D40) 12 0 ()) else (some (ByteArray.empty, 0, 0, 13))

theorem tfind_walk {img : List Int} {l : List (Int × Int)} {gw : Int} {gi : Int} {gb : Int} {n_ : Int} {tx_ : ByteArray} {mb vb : Nat} {r : ByteArray × Int × Int × Int} (B : Nat) (w : World) (hm : tfind_M img l gw gi gb n_ tx_ = some r) : Spec Tryz.prog 46 #[(.agg #[(.pointer (some ⟨vb, 0, none⟩)), (.int .i64 gw), (.int .i64 gi), (.int .i64 gb), (.pointer (some ⟨mb, 0, none⟩))]), (.string tx_)] B w [blk mb (.cells [(.pointer (some ⟨vb, 0, none⟩)), (.int .i64 gw), (.int .i64 gi), (.int .i64 gb), (.int .i64 n_)].toArray 164 (0, 0)), viewA (ptr vb) img l] (fun v H' => v = (.tuple #[(.agg #[(.string r.1), (.int .i64 r.2.1)]), (.int .i64 r.2.2.1), (.int .i64 r.2.2.2)]) ∧ H' = [blk mb (.cells [(.pointer (some ⟨vb, 0, none⟩)), (.int .i64 gw), (.int .i64 gi), (.int .i64 gb), (.int .i64 n_)].toArray 164 (0, 0)), viewA (ptr vb) img l]) := by
 refine spec_W Tryz.func46 rfl fun l0 hs => ?_
 unfold tfind_M at hm
 refine W.sr fun K1 hK1 => ?_
 refine zN [(.pointer (some ⟨vb, 0, none⟩)), (.int .i64 gw), (.int .i64 gi), (.int .i64 gb), (.pointer (some ⟨mb, 0, none⟩))] 97 hs fun b4 w2 hs3 => ?_
 refine zN [(.string tx_)] 9 hs3 fun b7 w5 hs6 => ?_
 refine zN [(.string ByteArray.empty), (.int .i64 0)] 33 hs6 fun b10 w8 hs9 => ?_
 refine zN [(.int .i64 0)] 3 hs9 fun b13 w11 hs12 => ?_
 refine zN [(.int .i64 0)] 34 hs12 fun b16 w14 hs15 => ?_
 refine zD (hK1 _ _ ?_)
 refine W.seq fun K17 hK17 => ?_
 refine W.sr fun K18 hK18 => ?_
 refine zL ⟨b7, 0, none⟩ (.string tx_) (hs15.cellAt 3 rfl rfl) ?_
 obtain ⟨r19, h20, hm⟩ := bind_some hm
 refine zC00 hs15 (emay_walk (tx_ := tx_) (hm := h20) B _) fun w21 hs23 => ?_
 refine zE 1 (hK18 _ _ ?_)
 refine W.cond (!r19) (by kernel_rfl) (fun h24 => ?_) (fun h24 => ?_)
 rotate_left
 ·
  have h24p : r19 = true := (bnot_false h24)
  replace hm := ite_yes hm h24p
  refine W.skip ?_
  refine hK17 _ _ ?_
  refine W.seq fun K25 hK25 => ?_
  refine W.sr fun K26 hK26 => ?_
  refine zL ⟨b7, 0, none⟩ (.string tx_) (hs23.cellAt 3 rfl rfl) ?_
  obtain ⟨r27, h28, hm⟩ := bind_some hm
  refine zC00 hs23 (ebegin_walk (tx_ := tx_) (hm := h28) B _) fun w29 hs31 => ?_
  refine ops_call0 hs31 (by kernel_rfl) (around_spec (f_ := r27) B _) ?_
  rintro _ _ w33 ⟨b32, rfl, rfl⟩ hs34
  have hs35 := St.ap1 hs34
  refine zD (hK26 _ _ ?_)
  refine W.block ?_
  obtain ⟨h36, hm⟩ := need_some hm
  refine W.norm (n := 37) (l := [(2, (.pointer (some ⟨b4, 0, none⟩))), (3, (.pointer (some ⟨b7, 0, none⟩))), (4, (.pointer (some ⟨b10, 0, none⟩))), (5, (.pointer (some ⟨b13, 0, none⟩))), (6, (.pointer (some ⟨b16, 0, none⟩))), (16, (.func (.func 83) #[] #[(.pointer (some ⟨b32, 0, none⟩))]))]) (by kernel_rfl) (fun us37 => ?_)
  have hs49 := St.f5 hs35
  have hs50 := St.f6 hs49
  have hs51 := St.f7 hs50
  have hs52 := St.f7 hs51
  have hs53 := St.f7 hs52
  have hs54 := St.f7 hs53
  have hs55 := St.f7 hs54
  have hs56 := St.f7 hs55
  have hF57 : rounds (fun k_ c_ s_ => tfind_R40 img l gw gi gb n_ tx_ r27 k_ c_) (fun s_ => tfind_D40) (12 - 0) 0 () = some r := by rw [Nat.sub_zero]; exact hm
  clear hm
  refine W.roundsA (G := Unit) (GZ := Int × Int × ByteArray × Int) (gf := 83) (lb := #[(.pointer (some ⟨b32, 0, none⟩))]) 12 (fun k_ _ => rounds (fun k_ c_ s_ => tfind_R40 img l gw gi gb n_ tx_ r27 k_ c_) (fun s_ => tfind_D40) (12 - k_) k_ () = some r) (fun _ => [blk b16 (.cells [(.int .i64 0)].toArray 34 (0, 0)), blk b13 (.cells [(.int .i64 0)].toArray 3 (0, 0)), blk b10 (.cells [(.string ByteArray.empty), (.int .i64 0)].toArray 33 (0, 0)), blk b7 (.cells [(.string tx_)].toArray 9 (0, 0)), viewA (ptr vb) img l, blk mb (.cells [(.pointer (some ⟨vb, 0, none⟩)), (.int .i64 gw), (.int .i64 gi), (.int .i64 gb), (.int .i64 n_)].toArray 164 (0, 0)), blk b4 (.cells [(.pointer (some ⟨vb, 0, none⟩)), (.int .i64 gw), (.int .i64 gi), (.int .i64 gb), (.pointer (some ⟨mb, 0, none⟩))].toArray 97 (0, 0))]) .ret (fun (p41, p42, p43, p44) => tfind_X40 p41 p42 p43 p44 = some r) (fun (p41, p42, p43, p44) => [blk b16 (.cells [(.int .i64 p41)].toArray 34 (0, 0)), blk b13 (.cells [(.int .i64 p42)].toArray 3 (0, 0)), blk b10 (.cells [(.string p43), (.int .i64 p44)].toArray 33 (0, 0)), blk b7 (.cells [(.string tx_)].toArray 9 (0, 0)), viewA (ptr vb) img l, blk mb (.cells [(.pointer (some ⟨vb, 0, none⟩)), (.int .i64 gw), (.int .i64 gi), (.int .i64 gb), (.int .i64 n_)].toArray 164 (0, 0)), blk b4 (.cells [(.pointer (some ⟨vb, 0, none⟩)), (.int .i64 gw), (.int .i64 gi), (.int .i64 gb), (.pointer (some ⟨mb, 0, none⟩))].toArray 97 (0, 0))]) [blk b32 (.cells [(.int .i64 r27)].toArray 3 (0, 0))] (fun k_ => #[(.int .i64 (((r27 : Int) + (k_ : Int)) % 12))]) (fun k_ l_ => slotsD 37 ((17, (.int .i64 (((r27 : Int) + (k_ : Int)) % 12))) :: [(2, (.pointer (some ⟨b4, 0, none⟩))), (3, (.pointer (some ⟨b7, 0, none⟩))), (4, (.pointer (some ⟨b10, 0, none⟩))), (5, (.pointer (some ⟨b13, 0, none⟩))), (6, (.pointer (some ⟨b16, 0, none⟩))), (16, (.func (.func 83) #[] #[(.pointer (some ⟨b32, 0, none⟩))]))]) us37 (some l_) []) () hF57 hs56 rfl (by kernel_rfl) (fun _ _ => by kernel_rfl) (fun _ => rfl) (fun a_ k_ l_ h1_ h2_ => ⟨rel_round1 (n := 37) (by decide) h1_ h2_, rfl⟩) (fun l_ => #[.func (.yield l_) #[] #[], (.pointer (some ⟨b32, 0, none⟩))]) (fun _ => rfl) (fun l_ w_ Y_ Z_ hy_ => around1_spec (f_ := r27) (yl := l_) (Y := Y_) (Z := Z_) (hf := h36) (hy := fun k_ h_ w_ => hy_ k_ h_ w_) _ w_) ?_ ?_ ?_
  rotate_left
  ·
   rintro D48 w58 _ hF60 hs59
   replace hF60 : rounds (fun k_ c_ s_ => tfind_R40 img l gw gi gb n_ tx_ r27 k_ c_) (fun s_ => tfind_D40) (12 - 12) 12 () = some r := hF60
   rw [rounds_end] at hF60
   have hm : tfind_D40 = some r := hF60
   clear hF60
   unfold tfind_D40 at hm
   have hs61 : St B w l0 w58 [blk D48 (.deferred (some [])), blk b32 (.cells [(.int .i64 r27)].toArray 3 (0, 0)), blk b16 (.cells [(.int .i64 0)].toArray 34 (0, 0)), blk b13 (.cells [(.int .i64 0)].toArray 3 (0, 0)), blk b10 (.cells [(.string ByteArray.empty), (.int .i64 0)].toArray 33 (0, 0)), blk b7 (.cells [(.string tx_)].toArray 9 (0, 0)), viewA (ptr vb) img l, blk mb (.cells [(.pointer (some ⟨vb, 0, none⟩)), (.int .i64 gw), (.int .i64 gi), (.int .i64 gb), (.int .i64 n_)].toArray 164 (0, 0)), blk b4 (.cells [(.pointer (some ⟨vb, 0, none⟩)), (.int .i64 gw), (.int .i64 gi), (.int .i64 gb), (.pointer (some ⟨mb, 0, none⟩))].toArray 97 (0, 0))] := hs59
   refine normal_block ?_
   refine hK25 _ _ ?_
   refine W.sr fun K62 hK62 => ?_
   refine zR 1 ?_
   have hs65 := St.f4 hs61
   refine ops_store (off := 0) (cs := [(.string ByteArray.empty), (.int .i64 0)]) (vs := [(.string ByteArray.empty), (.int .i64 0)]) hs65 (by kernel_rfl) (by simp) rfl (fun w63 hs64 => ?_)
   have hs66 : St B w l0 w63 [blk b10 (.cells [(.string ByteArray.empty), (.int .i64 0)].toArray 33 (0, 0)), blk D48 (.deferred (some [])), blk b32 (.cells [(.int .i64 r27)].toArray 3 (0, 0)), blk b16 (.cells [(.int .i64 0)].toArray 34 (0, 0)), blk b13 (.cells [(.int .i64 0)].toArray 3 (0, 0)), blk b7 (.cells [(.string tx_)].toArray 9 (0, 0)), viewA (ptr vb) img l, blk mb (.cells [(.pointer (some ⟨vb, 0, none⟩)), (.int .i64 gw), (.int .i64 gi), (.int .i64 gb), (.int .i64 n_)].toArray 164 (0, 0)), blk b4 (.cells [(.pointer (some ⟨vb, 0, none⟩)), (.int .i64 gw), (.int .i64 gi), (.int .i64 gb), (.pointer (some ⟨mb, 0, none⟩))].toArray 97 (0, 0))] := hs64
   have hs69 := St.f4 hs66
   refine ops_store (off := 0) (cs := [(.int .i64 0)]) (vs := [(.int .i64 0)]) hs69 (by kernel_rfl) (by simp) rfl (fun w67 hs68 => ?_)
   have hs70 : St B w l0 w67 [blk b13 (.cells [(.int .i64 0)].toArray 3 (0, 0)), blk b10 (.cells [(.string ByteArray.empty), (.int .i64 0)].toArray 33 (0, 0)), blk D48 (.deferred (some [])), blk b32 (.cells [(.int .i64 r27)].toArray 3 (0, 0)), blk b16 (.cells [(.int .i64 0)].toArray 34 (0, 0)), blk b7 (.cells [(.string tx_)].toArray 9 (0, 0)), viewA (ptr vb) img l, blk mb (.cells [(.pointer (some ⟨vb, 0, none⟩)), (.int .i64 gw), (.int .i64 gi), (.int .i64 gb), (.int .i64 n_)].toArray 164 (0, 0)), blk b4 (.cells [(.pointer (some ⟨vb, 0, none⟩)), (.int .i64 gw), (.int .i64 gi), (.int .i64 gb), (.pointer (some ⟨mb, 0, none⟩))].toArray 97 (0, 0))] := hs68
   have hs73 := St.f4 hs70
   refine ops_store (off := 0) (cs := [(.int .i64 0)]) (vs := [(.int .i64 6)]) hs73 (by kernel_rfl) (by simp) rfl (fun w71 hs72 => ?_)
   have hs74 : St B w l0 w71 [blk b16 (.cells [(.int .i64 6)].toArray 34 (0, 0)), blk b13 (.cells [(.int .i64 0)].toArray 3 (0, 0)), blk b10 (.cells [(.string ByteArray.empty), (.int .i64 0)].toArray 33 (0, 0)), blk D48 (.deferred (some [])), blk b32 (.cells [(.int .i64 r27)].toArray 3 (0, 0)), blk b7 (.cells [(.string tx_)].toArray 9 (0, 0)), viewA (ptr vb) img l, blk mb (.cells [(.pointer (some ⟨vb, 0, none⟩)), (.int .i64 gw), (.int .i64 gi), (.int .i64 gb), (.int .i64 n_)].toArray 164 (0, 0)), blk b4 (.cells [(.pointer (some ⟨vb, 0, none⟩)), (.int .i64 gw), (.int .i64 gi), (.int .i64 gb), (.pointer (some ⟨mb, 0, none⟩))].toArray 97 (0, 0))] := hs72
   refine zD (hK62 _ _ ?_)
   refine W.ret ?_
   obtain rfl := some_inj hm
   have hs75 := St.f8 hs74
   have hs76 := St.f8 hs75
   have hs77 := St.f8 hs76
   have hs78 := St.f8 hs77
   have hs79 := St.f8 hs78
   have hs80 := St.f7 hs79
   have hs81 := St.f7 hs80
   have hs82 := St.f7 hs81
   have hs83 := St.f8 hs82
   refine leave_mark (D := D48) (v := (.tuple #[(.agg #[(.string ByteArray.empty), (.int .i64 0)]), (.int .i64 0), (.int .i64 6)])) hs83 (by kernel_rfl) (fun w84 hs85 => (resD_three rfl (.agg (ad := ⟨b10, 0, none⟩) (cs := [(.string ByteArray.empty), (.int .i64 0)]) (by kernel_rfl) (by kernel_rfl) (cells_sub (hs85.heapAt 2 rfl) rfl)) (.cell (ad := ⟨b13, 0, none⟩) (by kernel_rfl) (by kernel_rfl) (hs85.cellAt 1 rfl rfl)) (.cell (ad := ⟨b16, 0, none⟩) (by kernel_rfl) (by kernel_rfl) (hs85.cellAt 0 rfl rfl)))) (fun w84 hs85 => ?_)
   have hs86 := St.f5 hs85
   have hs87 := St.f6 hs86
   have hs88 := St.tk2 hs87
   exact ⟨_, ⟨rfl, rfl⟩, hs88⟩
  ·
   rintro D91 w89 ⟨p41, p42, p43, p44⟩ hm hs90
   replace hm : tfind_X40 p41 p42 p43 p44 = some r := hm
   unfold tfind_X40 at hm
   have hs92 : St B w l0 w89 [blk D91 (.deferred (some [])), blk b32 (.cells [(.int .i64 r27)].toArray 3 (0, 0)), blk b16 (.cells [(.int .i64 p41)].toArray 34 (0, 0)), blk b13 (.cells [(.int .i64 p42)].toArray 3 (0, 0)), blk b10 (.cells [(.string p43), (.int .i64 p44)].toArray 33 (0, 0)), blk b7 (.cells [(.string tx_)].toArray 9 (0, 0)), viewA (ptr vb) img l, blk mb (.cells [(.pointer (some ⟨vb, 0, none⟩)), (.int .i64 gw), (.int .i64 gi), (.int .i64 gb), (.int .i64 n_)].toArray 164 (0, 0)), blk b4 (.cells [(.pointer (some ⟨vb, 0, none⟩)), (.int .i64 gw), (.int .i64 gi), (.int .i64 gb), (.pointer (some ⟨mb, 0, none⟩))].toArray 97 (0, 0))] := hs90
   refine W.ret (ret_block (ret_seq ?_))
   obtain rfl := some_inj hm
   refine leave_mark (D := D91) (v := (.tuple #[(.agg #[(.string p43), (.int .i64 p44)]), (.int .i64 p42), (.int .i64 p41)])) hs92 (by kernel_rfl) (fun w93 hs94 => (resD_three rfl (.agg (ad := ⟨b10, 0, none⟩) (cs := [(.string p43), (.int .i64 p44)]) (by kernel_rfl) (by kernel_rfl) (cells_sub (hs94.heapAt 3 rfl) rfl)) (.cell (ad := ⟨b13, 0, none⟩) (by kernel_rfl) (by kernel_rfl) (hs94.cellAt 2 rfl rfl)) (.cell (ad := ⟨b16, 0, none⟩) (by kernel_rfl) (by kernel_rfl) (hs94.cellAt 1 rfl rfl)))) (fun w93 hs94 => ?_)
   have hs95 := St.f5 hs94
   have hs96 := St.f6 hs95
   have hs97 := St.tk2 hs96
   exact ⟨_, ⟨rfl, rfl⟩, hs97⟩
  ·
   rintro k38 hk98 rc46 l45 w99 _ hF103 lf100 hs101 K102 hK102
   replace hF103 : rounds (fun k_ c_ s_ => tfind_R40 img l gw gi gb n_ tx_ r27 k_ c_) (fun s_ => tfind_D40) (12 - k38) k38 () = some r := hF103
   rw [rounds_at hk98] at hF103
   obtain ⟨c39, hc39⟩ : ∃ c_, c_ = rounds (fun k_ c_ s_ => tfind_R40 img l gw gi gb n_ tx_ r27 k_ c_) (fun s_ => tfind_D40) (12 - (k38 + 1)) (k38 + 1) := ⟨_, rfl⟩
   rw [← hc39] at hF103
   have hm : tfind_R40 img l gw gi gb n_ tx_ r27 k38 c39 = some r := hF103
   clear hF103
   unfold tfind_R40 at hm
   refine W.region ?_
   refine zR 1 ?_
   obtain ⟨r104, h105, hm⟩ := bind_some hm
   replace h105 := some_inj h105
   refine ops_set 7 (v := .int .i64 r104) (Eq.trans (by kernel_rfl) (congrArg (Value.int .i64) h105)) ?_
   refine zD ?_
   refine hK102 _ _ hs101 (fun w106 hs107 => ?_)
   refine W.block ?_
   refine W.sr fun K108 hK108 => ?_
   refine ops_R (runs_loadAgg (ad := ⟨b4, 0, none⟩) (cs := [(.pointer (some ⟨vb, 0, none⟩)), (.int .i64 gw), (.int .i64 gi), (.int .i64 gb), (.pointer (some ⟨mb, 0, none⟩))]) (by kernel_rfl) (cells_sub (hs107.heapAt 7 rfl) rfl)) ?_
   refine zR 1 ?_
   obtain ⟨r109, h110, hm⟩ := bind_some hm
   have hs111 := St.f5 hs107
   have hs112 := St.f6 hs111
   refine zC22 hs112 (tentry_walk (mb := mb) (vb := vb) (k_ := r104) (img := img) (l := l) (gw := gw) (gi := gi) (gb := gb) (n_ := n_) (hm := h110) B _) fun w113 hs115 => ?_
   refine zR 3 ?_
   refine zN [(.string ByteArray.empty), (.int .i64 0)] 33 hs115 fun b118 w116 hs117 => ?_
   refine ops_store (off := 0) (cs := [(.string ByteArray.empty), (.int .i64 0)]) (vs := [(.string r109.1), (.int .i64 r109.2.1)]) hs117 (by kernel_rfl) (by simp) rfl (fun w119 hs120 => ?_)
   have hs121 : St B w99 lf100 w119 [blk b118 (.cells [(.string r109.1), (.int .i64 r109.2.1)].toArray 33 (0, 0)), blk mb (.cells [(.pointer (some ⟨vb, 0, none⟩)), (.int .i64 gw), (.int .i64 gi), (.int .i64 gb), (.int .i64 n_)].toArray 164 (0, 0)), viewA (ptr vb) img l, blk l45 (.loop { rc46 with state := .busy }), blk b16 (.cells [(.int .i64 0)].toArray 34 (0, 0)), blk b13 (.cells [(.int .i64 0)].toArray 3 (0, 0)), blk b10 (.cells [(.string ByteArray.empty), (.int .i64 0)].toArray 33 (0, 0)), blk b7 (.cells [(.string tx_)].toArray 9 (0, 0)), blk b4 (.cells [(.pointer (some ⟨vb, 0, none⟩)), (.int .i64 gw), (.int .i64 gi), (.int .i64 gb), (.pointer (some ⟨mb, 0, none⟩))].toArray 97 (0, 0))] := hs120
   refine zE 1 (hK108 _ _ ?_)
   refine W.seq fun K122 hK122 => ?_
   refine W.sr fun K123 hK123 => ?_
   refine zE 2 (hK123 _ _ ?_)
   refine W.cond (!decide (r109.2.2 = 0)) (by kernel_rfl) (fun h124 => ?_) (fun h124 => ?_)
   rotate_left
   ·
    have h124p : r109.2.2 = 0 := of_decide_eq_true (bnot_false h124)
    replace hm := ite_yes hm h124p
    refine W.skip ?_
    refine hK122 _ _ ?_
    refine W.sr fun K125 hK125 => ?_
    refine ops_R (runs_loadAgg (ad := ⟨b118, 0, none⟩) (cs := [(.string r109.1), (.int .i64 r109.2.1)]) (by kernel_rfl) (cells_sub (hs121.heapAt 0 rfl) rfl)) ?_
    refine zL ⟨b7, 0, none⟩ (.string tx_) (hs121.cellAt 7 rfl rfl) ?_
    refine zR 1 ?_
    refine zL ⟨b118, 1, none⟩ (.int .i64 r109.2.1) (hs121.cellAt 0 rfl rfl) ?_
    refine zR 1 ?_
    refine ops_R (v := (.bool ((r109.1 == tx_) && ((decide (r109.2.1 = r109.2.1)) && true)))) (runs_eq (b := ((r109.1 == tx_) && ((decide (r109.2.1 = r109.2.1)) && true))) (by kernel_rfl)) ?_
    refine zD (hK125 _ _ ?_)
    refine W.cond ((r109.1 == tx_) && ((decide (r109.2.1 = r109.2.1)) && true)) (by kernel_rfl) (fun h126 => ?_) (fun h126 => ?_)
    ·
     have h126p : r109.1 = tx_ ∧ r109.2.1 = r109.2.1 := by simpa using h126
     replace hm := ite_yes hm h126p
     refine W.sr fun K127 hK127 => ?_
     refine ops_R (runs_loadAgg (ad := ⟨b118, 0, none⟩) (cs := [(.string r109.1), (.int .i64 r109.2.1)]) (by kernel_rfl) (cells_sub (hs121.heapAt 0 rfl) rfl)) ?_
     refine zR 1 ?_
     have hs130 := St.f6 hs121
     refine ops_store (off := 0) (cs := [(.string ByteArray.empty), (.int .i64 0)]) (vs := [(.string r109.1), (.int .i64 r109.2.1)]) hs130 (by kernel_rfl) (by simp) rfl (fun w128 hs129 => ?_)
     have hs131 : St B w99 lf100 w128 [blk b10 (.cells [(.string r109.1), (.int .i64 r109.2.1)].toArray 33 (0, 0)), blk b118 (.cells [(.string r109.1), (.int .i64 r109.2.1)].toArray 33 (0, 0)), blk mb (.cells [(.pointer (some ⟨vb, 0, none⟩)), (.int .i64 gw), (.int .i64 gi), (.int .i64 gb), (.int .i64 n_)].toArray 164 (0, 0)), viewA (ptr vb) img l, blk l45 (.loop { rc46 with state := .busy }), blk b16 (.cells [(.int .i64 0)].toArray 34 (0, 0)), blk b13 (.cells [(.int .i64 0)].toArray 3 (0, 0)), blk b7 (.cells [(.string tx_)].toArray 9 (0, 0)), blk b4 (.cells [(.pointer (some ⟨vb, 0, none⟩)), (.int .i64 gw), (.int .i64 gi), (.int .i64 gb), (.pointer (some ⟨mb, 0, none⟩))].toArray 97 (0, 0))] := hs129
     have hs134 := St.f6 hs131
     refine ops_store (off := 0) (cs := [(.int .i64 0)]) (vs := [(.int .i64 r104)]) hs134 (by kernel_rfl) (by simp) rfl (fun w132 hs133 => ?_)
     have hs135 : St B w99 lf100 w132 [blk b13 (.cells [(.int .i64 r104)].toArray 3 (0, 0)), blk b10 (.cells [(.string r109.1), (.int .i64 r109.2.1)].toArray 33 (0, 0)), blk b118 (.cells [(.string r109.1), (.int .i64 r109.2.1)].toArray 33 (0, 0)), blk mb (.cells [(.pointer (some ⟨vb, 0, none⟩)), (.int .i64 gw), (.int .i64 gi), (.int .i64 gb), (.int .i64 n_)].toArray 164 (0, 0)), viewA (ptr vb) img l, blk l45 (.loop { rc46 with state := .busy }), blk b16 (.cells [(.int .i64 0)].toArray 34 (0, 0)), blk b7 (.cells [(.string tx_)].toArray 9 (0, 0)), blk b4 (.cells [(.pointer (some ⟨vb, 0, none⟩)), (.int .i64 gw), (.int .i64 gi), (.int .i64 gb), (.pointer (some ⟨mb, 0, none⟩))].toArray 97 (0, 0))] := hs133
     have hs138 := St.f6 hs135
     refine ops_store (off := 0) (cs := [(.int .i64 0)]) (vs := [(.int .i64 0)]) hs138 (by kernel_rfl) (by simp) rfl (fun w136 hs137 => ?_)
     have hs139 : St B w99 lf100 w136 [blk b16 (.cells [(.int .i64 0)].toArray 34 (0, 0)), blk b13 (.cells [(.int .i64 r104)].toArray 3 (0, 0)), blk b10 (.cells [(.string r109.1), (.int .i64 r109.2.1)].toArray 33 (0, 0)), blk b118 (.cells [(.string r109.1), (.int .i64 r109.2.1)].toArray 33 (0, 0)), blk mb (.cells [(.pointer (some ⟨vb, 0, none⟩)), (.int .i64 gw), (.int .i64 gi), (.int .i64 gb), (.int .i64 n_)].toArray 164 (0, 0)), viewA (ptr vb) img l, blk l45 (.loop { rc46 with state := .busy }), blk b7 (.cells [(.string tx_)].toArray 9 (0, 0)), blk b4 (.cells [(.pointer (some ⟨vb, 0, none⟩)), (.int .i64 gw), (.int .i64 gi), (.int .i64 gb), (.pointer (some ⟨mb, 0, none⟩))].toArray 97 (0, 0))] := hs137
     refine zD (hK127 _ _ ?_)
     refine W.ret (ret_block ?_)
     have hs140 := St.f8 hs139
     have hs141 := St.f5 hs140
     have hs142 := St.f6 hs141
     have hs143 := St.f8 hs142
     have hs144 := St.f6 hs143
     have hs145 := St.f6 hs144
     have hs146 := St.f6 hs145
     have hs147 := St.f8 hs146
     have hs148 := St.tk8 hs147
     exact ⟨rfl, (0, r104, r109.1, r109.2.1), hm, hs148⟩
    ·
     have h126p : ¬ (r109.1 = tx_ ∧ r109.2.1 = r109.2.1) := by simpa using h126
     replace hm := ite_no hm h126p
     refine W.skip ?_
     refine normal_block ?_
     have hs149 := St.f8 hs121
     have hs150 := St.f2 hs149
     have hs151 := St.f3 hs150
     have hs152 := St.f8 hs151
     have hs153 := St.f8 hs152
     have hs154 := St.f8 hs153
     have hs155 := St.f8 hs154
     have hs156 := St.f8 hs155
     have hs157 := St.tk8 hs156
     rw [hc39] at hm
     exact ⟨(), hm, hs157⟩
   ·
    have h124p : ¬ (r109.2.2 = 0) := of_decide_eq_false (bnot_true h124)
    replace hm := ite_no hm h124p
    refine W.sr fun K158 hK158 => ?_
    refine zR 2 ?_
    have hs161 := St.f6 hs121
    refine ops_store (off := 0) (cs := [(.string ByteArray.empty), (.int .i64 0)]) (vs := [(.string ByteArray.empty), (.int .i64 0)]) hs161 (by kernel_rfl) (by simp) rfl (fun w159 hs160 => ?_)
    have hs162 : St B w99 lf100 w159 [blk b10 (.cells [(.string ByteArray.empty), (.int .i64 0)].toArray 33 (0, 0)), blk b118 (.cells [(.string r109.1), (.int .i64 r109.2.1)].toArray 33 (0, 0)), blk mb (.cells [(.pointer (some ⟨vb, 0, none⟩)), (.int .i64 gw), (.int .i64 gi), (.int .i64 gb), (.int .i64 n_)].toArray 164 (0, 0)), viewA (ptr vb) img l, blk l45 (.loop { rc46 with state := .busy }), blk b16 (.cells [(.int .i64 0)].toArray 34 (0, 0)), blk b13 (.cells [(.int .i64 0)].toArray 3 (0, 0)), blk b7 (.cells [(.string tx_)].toArray 9 (0, 0)), blk b4 (.cells [(.pointer (some ⟨vb, 0, none⟩)), (.int .i64 gw), (.int .i64 gi), (.int .i64 gb), (.pointer (some ⟨mb, 0, none⟩))].toArray 97 (0, 0))] := hs160
    have hs165 := St.f6 hs162
    refine ops_store (off := 0) (cs := [(.int .i64 0)]) (vs := [(.int .i64 0)]) hs165 (by kernel_rfl) (by simp) rfl (fun w163 hs164 => ?_)
    have hs166 : St B w99 lf100 w163 [blk b13 (.cells [(.int .i64 0)].toArray 3 (0, 0)), blk b10 (.cells [(.string ByteArray.empty), (.int .i64 0)].toArray 33 (0, 0)), blk b118 (.cells [(.string r109.1), (.int .i64 r109.2.1)].toArray 33 (0, 0)), blk mb (.cells [(.pointer (some ⟨vb, 0, none⟩)), (.int .i64 gw), (.int .i64 gi), (.int .i64 gb), (.int .i64 n_)].toArray 164 (0, 0)), viewA (ptr vb) img l, blk l45 (.loop { rc46 with state := .busy }), blk b16 (.cells [(.int .i64 0)].toArray 34 (0, 0)), blk b7 (.cells [(.string tx_)].toArray 9 (0, 0)), blk b4 (.cells [(.pointer (some ⟨vb, 0, none⟩)), (.int .i64 gw), (.int .i64 gi), (.int .i64 gb), (.pointer (some ⟨mb, 0, none⟩))].toArray 97 (0, 0))] := hs164
    have hs169 := St.f6 hs166
    refine ops_store (off := 0) (cs := [(.int .i64 0)]) (vs := [(.int .i64 r109.2.2)]) hs169 (by kernel_rfl) (by simp) rfl (fun w167 hs168 => ?_)
    have hs170 : St B w99 lf100 w167 [blk b16 (.cells [(.int .i64 r109.2.2)].toArray 34 (0, 0)), blk b13 (.cells [(.int .i64 0)].toArray 3 (0, 0)), blk b10 (.cells [(.string ByteArray.empty), (.int .i64 0)].toArray 33 (0, 0)), blk b118 (.cells [(.string r109.1), (.int .i64 r109.2.1)].toArray 33 (0, 0)), blk mb (.cells [(.pointer (some ⟨vb, 0, none⟩)), (.int .i64 gw), (.int .i64 gi), (.int .i64 gb), (.int .i64 n_)].toArray 164 (0, 0)), viewA (ptr vb) img l, blk l45 (.loop { rc46 with state := .busy }), blk b7 (.cells [(.string tx_)].toArray 9 (0, 0)), blk b4 (.cells [(.pointer (some ⟨vb, 0, none⟩)), (.int .i64 gw), (.int .i64 gi), (.int .i64 gb), (.pointer (some ⟨mb, 0, none⟩))].toArray 97 (0, 0))] := hs168
    refine zD (hK158 _ _ ?_)
    refine W.ret (ret_seq (ret_block ?_))
    have hs171 := St.f8 hs170
    have hs172 := St.f5 hs171
    have hs173 := St.f6 hs172
    have hs174 := St.f8 hs173
    have hs175 := St.f6 hs174
    have hs176 := St.f6 hs175
    have hs177 := St.f6 hs176
    have hs178 := St.f8 hs177
    have hs179 := St.tk8 hs178
    exact ⟨rfl, (r109.2.2, 0, ByteArray.empty, 0), hm, hs179⟩
 ·
  have h24p : ¬ (r19 = true) := ne_true_of_eq_false (bnot_true h24)
  replace hm := ite_no hm h24p
  refine W.sr fun K180 hK180 => ?_
  refine zR 1 ?_
  have hs183 := St.f2 hs23
  refine ops_store (off := 0) (cs := [(.string ByteArray.empty), (.int .i64 0)]) (vs := [(.string ByteArray.empty), (.int .i64 0)]) hs183 (by kernel_rfl) (by simp) rfl (fun w181 hs182 => ?_)
  have hs184 : St B w l0 w181 [blk b10 (.cells [(.string ByteArray.empty), (.int .i64 0)].toArray 33 (0, 0)), blk b16 (.cells [(.int .i64 0)].toArray 34 (0, 0)), blk b13 (.cells [(.int .i64 0)].toArray 3 (0, 0)), blk b7 (.cells [(.string tx_)].toArray 9 (0, 0)), blk b4 (.cells [(.pointer (some ⟨vb, 0, none⟩)), (.int .i64 gw), (.int .i64 gi), (.int .i64 gb), (.pointer (some ⟨mb, 0, none⟩))].toArray 97 (0, 0)), blk mb (.cells [(.pointer (some ⟨vb, 0, none⟩)), (.int .i64 gw), (.int .i64 gi), (.int .i64 gb), (.int .i64 n_)].toArray 164 (0, 0)), viewA (ptr vb) img l] := hs182
  have hs187 := St.f2 hs184
  refine ops_store (off := 0) (cs := [(.int .i64 0)]) (vs := [(.int .i64 0)]) hs187 (by kernel_rfl) (by simp) rfl (fun w185 hs186 => ?_)
  have hs188 : St B w l0 w185 [blk b13 (.cells [(.int .i64 0)].toArray 3 (0, 0)), blk b10 (.cells [(.string ByteArray.empty), (.int .i64 0)].toArray 33 (0, 0)), blk b16 (.cells [(.int .i64 0)].toArray 34 (0, 0)), blk b7 (.cells [(.string tx_)].toArray 9 (0, 0)), blk b4 (.cells [(.pointer (some ⟨vb, 0, none⟩)), (.int .i64 gw), (.int .i64 gi), (.int .i64 gb), (.pointer (some ⟨mb, 0, none⟩))].toArray 97 (0, 0)), blk mb (.cells [(.pointer (some ⟨vb, 0, none⟩)), (.int .i64 gw), (.int .i64 gi), (.int .i64 gb), (.int .i64 n_)].toArray 164 (0, 0)), viewA (ptr vb) img l] := hs186
  have hs191 := St.f2 hs188
  refine ops_store (off := 0) (cs := [(.int .i64 0)]) (vs := [(.int .i64 13)]) hs191 (by kernel_rfl) (by simp) rfl (fun w189 hs190 => ?_)
  have hs192 : St B w l0 w189 [blk b16 (.cells [(.int .i64 13)].toArray 34 (0, 0)), blk b13 (.cells [(.int .i64 0)].toArray 3 (0, 0)), blk b10 (.cells [(.string ByteArray.empty), (.int .i64 0)].toArray 33 (0, 0)), blk b7 (.cells [(.string tx_)].toArray 9 (0, 0)), blk b4 (.cells [(.pointer (some ⟨vb, 0, none⟩)), (.int .i64 gw), (.int .i64 gi), (.int .i64 gb), (.pointer (some ⟨mb, 0, none⟩))].toArray 97 (0, 0)), blk mb (.cells [(.pointer (some ⟨vb, 0, none⟩)), (.int .i64 gw), (.int .i64 gi), (.int .i64 gb), (.int .i64 n_)].toArray 164 (0, 0)), viewA (ptr vb) img l] := hs190
  refine zD (hK180 _ _ ?_)
  refine W.ret (ret_seq ?_)
  obtain rfl := some_inj hm
  have hs193 := St.f6 hs192
  have hs194 := St.f6 hs193
  have hs195 := St.tk2 hs194
  refine ret_of (.tuple #[(.agg #[(.string ByteArray.empty), (.int .i64 0)]), (.int .i64 0), (.int .i64 13)]) (resS_of (by kernel_rfl) (resD_three rfl (.agg (ad := ⟨b10, 0, none⟩) (cs := [(.string ByteArray.empty), (.int .i64 0)]) (by kernel_rfl) (by kernel_rfl) (cells_sub (hs192.heapAt 2 rfl) rfl)) (.cell (ad := ⟨b13, 0, none⟩) (by kernel_rfl) (by kernel_rfl) (hs192.cellAt 1 rfl rfl)) (.cell (ad := ⟨b16, 0, none⟩) (by kernel_rfl) (by kernel_rfl) (hs192.cellAt 0 rfl rfl)))) ⟨_, ⟨rfl, rfl⟩, hs195⟩

end Go.Proofs.YtmmclabkkigiaaaGreatDoor

set_option maxRecDepth 20000
namespace Go.Proofs.YtmmclabkkigiaaaGreatDoor
open Go Go.RowKit
set_option linter.unusedSimpArgs false
set_option linter.unusedVariables false



theorem ig_nil {gw gi gb n_ : Int} (B : Nat) (w : World) : Spec Tryz.prog 81 #[(.pointer none), (.agg #[(.int .i64 gw), (.int .i64 gi), (.int .i64 gb)]), (.int .i64 n_)] B w [] (fun v H' => v = (.tuple #[(.agg #[(.int .u64 0), (.int .u64 0), (.int .u64 0), (.int .u64 0), (.int .u64 0), (.int .u64 0), (.int .u64 0), (.int .u64 0), (.int .u64 0), (.int .u64 0)]), (.int .i64 2)]) ∧ H' = []) := by
 refine spec_Q Tryz.func81 rfl fun hs => ?_
 refine W.sr fun K1 hK1 => ?_
 refine zN [(.int .i64 gw), (.int .i64 gi), (.int .i64 gb)] 31 hs fun b4 w2 hs3 => ?_
 refine zN [(.int .u64 0), (.int .u64 0), (.int .u64 0), (.int .u64 0), (.int .u64 0), (.int .u64 0), (.int .u64 0), (.int .u64 0), (.int .u64 0), (.int .u64 0)] 153 hs3 fun b7 w5 hs6 => ?_
 refine zE 1 (hK1 _ _ ?_)
 refine W.sr fun K8 hK8 => ?_
 refine zR 1 ?_
 refine ops_R (runs_loadAgg (ad := ⟨b4, 0, none⟩) (cs := [(.int .i64 gw), (.int .i64 gi), (.int .i64 gb)]) (by kernel_rfl) (cells_sub (hs6.heapAt 1 rfl) rfl)) ?_
 refine zR 1 ?_
 refine zC00 hs6 (ifind_nil (gw := gw) (gi := gi) (gb := gb) (n_ := n_) B _) fun w9 hs11 => ?_
 refine zE 5 (hK8 _ _ ?_)
 refine W.seq fun K12 hK12 => ?_
 refine W.sr fun K13 hK13 => ?_
 refine zE 2 (hK13 _ _ ?_)
 refine W.cond_true true (by kernel_rfl) rfl ?_
 refine W.sr fun K14 hK14 => ?_
 refine zR 2 ?_
 refine ops_store (off := 0) (cs := [(.int .u64 0), (.int .u64 0), (.int .u64 0), (.int .u64 0), (.int .u64 0), (.int .u64 0), (.int .u64 0), (.int .u64 0), (.int .u64 0), (.int .u64 0)]) (vs := [(.int .u64 0), (.int .u64 0), (.int .u64 0), (.int .u64 0), (.int .u64 0), (.int .u64 0), (.int .u64 0), (.int .u64 0), (.int .u64 0), (.int .u64 0)]) hs11 (by kernel_rfl) (by simp) rfl (fun w15 hs16 => ?_)
 have hs17 : St B w [] w15 [blk b7 (.cells [(.int .u64 0), (.int .u64 0), (.int .u64 0), (.int .u64 0), (.int .u64 0), (.int .u64 0), (.int .u64 0), (.int .u64 0), (.int .u64 0), (.int .u64 0)].toArray 153 (0, 0)), blk b4 (.cells [(.int .i64 gw), (.int .i64 gi), (.int .i64 gb)].toArray 31 (0, 0))] := hs16
 refine zE 1 (hK14 _ _ ?_)
 refine W.ret (ret_seq ?_)
 have hs18 := St.tk0 hs17
 refine ret_of (.tuple #[(.agg #[(.int .u64 0), (.int .u64 0), (.int .u64 0), (.int .u64 0), (.int .u64 0), (.int .u64 0), (.int .u64 0), (.int .u64 0), (.int .u64 0), (.int .u64 0)]), (.int .i64 2)]) (results_cell2 (ad := ⟨b7, 0, none⟩) (cs := [(.int .u64 0), (.int .u64 0), (.int .u64 0), (.int .u64 0), (.int .u64 0), (.int .u64 0), (.int .u64 0), (.int .u64 0), (.int .u64 0), (.int .u64 0)]) rfl (by kernel_rfl) (by kernel_rfl) (by kernel_rfl) (cells_sub (hs17.heapAt 0 rfl) rfl)) ⟨_, ⟨rfl, rfl⟩, hs18⟩



end Go.Proofs.YtmmclabkkigiaaaGreatDoor
