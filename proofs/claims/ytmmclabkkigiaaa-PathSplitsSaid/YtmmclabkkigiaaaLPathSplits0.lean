/- Texts, one behind the other: ALpSp, PLpSp. -/
import Derived.Test.YtmmclabkkigiaaaQPN4
set_option linter.unusedVariables false
set_option linter.unusedSimpArgs false
set_option maxRecDepth 20000
set_option maxHeartbeats 4000000
namespace Go.Proofs.Ytmmclabkkigiaaa
open Go Go.RowKit
def pathsplits_J1 (tx_ : ByteArray) (xs : List ByteArray) : Option (Bool) :=
 (psplit_M tx_).bind fun r23 =>
(rsplit_M tx_).bind fun r31 =>
if r23.2 = r31.2 then ((rsame16_M r23.1 r31.1).bind fun r38 =>
if r38 = true then ((pjoin_M xs).bind fun r44 =>
(rjoin16_M xs).bind fun r49 =>
if (r44.toList == r49.toList) = true then ((works16_M).bind fun r55 =>
some r55) else (some false)) else (some false)) else (some false)
def pathsplits_B0 (tx_ : ByteArray) (xs : List ByteArray) (k66 : Int → Option (Bool)) (p65 : Int) : Option (Bool) :=
 if p65 < (xs.length : Int) then (need (0 ≤ p65 ∧ p65 < (xs.length : Int)) <|
if ((xs.getD p65.toNat ByteArray.empty).size : Int) > 300 then ((works16_M).bind fun r79 =>
some r79) else (need (-9223372036854775808 ≤ (p65 + 1) ∧ (p65 + 1) ≤ 9223372036854775807) <|
k66 (p65 + 1))) else (pathsplits_J1 tx_ xs)
def pathsplits_M (tx_ : ByteArray) (xs : List ByteArray) : Option (Bool) :=
 if (tx_.size : Int) > 1000 then ((works16_M).bind fun r6 =>
some r6) else (if (xs.length : Int) > 300 then ((works16_M).bind fun r13 =>
some r13) else (iter (fun k_ s_ => pathsplits_B0 tx_ xs k_ s_) FUEL 0))
theorem pathsplits_walk {tx_ : ByteArray} {xs : List ByteArray} {xa : Option Addr} {xc : Nat}  (B : Nat) (w : World) (hB : w.heap.size = B) (hx : CellsAt xa (kStr.cells xs) w) (hcap : xs.length ≤ xc) (hm : pathsplits_M tx_ xs = some true) : Spec Try.prog 3 #[(.string tx_), (.slice xa xs.length xc)] B w [] (fun v H' => v = .bool true ∧ H' = []) := by
 refine spec_Q Try.func3 rfl fun hs => ?_
 unfold pathsplits_M at hm
 refine W.sr fun K1 hK1 => ?_
 refine zE 1 (hK1 _ _ ?_)
 refine W.seq fun K2 hK2 => ?_
 refine W.sr fun K3 hK3 => ?_
 refine zR 4 ?_
 rcases Bool.eq_false_or_eq_true (decide ((tx_.size : Int) > 1000)) with h4 | h4
 ·
  obtain ⟨h4p, hm⟩ := iY hm h4
  refine zS 13 h4 ?_
  refine zS 12 h4 ?_
  refine zE 4 (hK3 _ _ ?_)
  refine W.cond_true true (by kernel_rfl) rfl ?_
  refine W.sr fun K5 hK5 => ?_
  obtain ⟨r6, h7, hm⟩ := bind_some hm
  refine zC00 hs (works16_walk (hm := h7) B _) fun w8 hs10 => ?_
  refine zE 1 (hK5 _ _ ?_)
  refine W.ret (ret_seq ?_)
  refine ret_of (.bool r6) (by kernel_rfl) ⟨_, ⟨congrArg Value.bool (some_inj hm), rfl⟩, hs10⟩
 obtain ⟨h4p, hm⟩ := iN hm h4
 refine zS 13 h4 ?_
 refine zS 12 h4 ?_
 refine zE 4 (hK3 _ _ ?_)
 refine W.cond (decide ((xs.length : Int) > 300)) (by kernel_rfl) (fun h11 => ?_) (fun h11 => ?_)
 ·
  obtain ⟨h11p, hm⟩ := iY hm h11
  refine W.sr fun K12 hK12 => ?_
  obtain ⟨r13, h14, hm⟩ := bind_some hm
  refine zC00 hs (works16_walk (hm := h14) B _) fun w15 hs17 => ?_
  refine zE 1 (hK12 _ _ ?_)
  refine W.ret (ret_seq ?_)
  refine ret_of (.bool r13) (by kernel_rfl) ⟨_, ⟨congrArg Value.bool (some_inj hm), rfl⟩, hs17⟩
 obtain ⟨h11p, hm⟩ := iN hm h11
 refine W.skip ?_
 refine hK2 _ _ ?_
 refine W.seq_join (fun s_ w_ => (∃ us, s_ = slots 60 [(0, (.string tx_)), (1, (.slice xa xs.length xc))] us) ∧ St B w [] w_ [] ∧ pathsplits_J1 tx_ xs = some true) ?_ ?_
 ·
  rintro _ w18 ⟨⟨us, rfl⟩, hs19, hm⟩
  unfold pathsplits_J1 at hm
  refine W.sr fun K20 hK20 => ?_
  refine zR 1 ?_
  obtain ⟨r23, h24, hm⟩ := bind_some hm
  refine ops_call0 hs19 (by kernel_rfl) (psplit_walk (tx_ := tx_) (hm := h24) B _) ?_
  rintro _ _ w25 ⟨a21, c22, rfl, rfl⟩ hs26
  have hs27 := St.ap1 hs26
  refine zE 5 (hK20 _ _ ?_)
  refine W.sr fun K28 hK28 => ?_
  refine zR 1 ?_
  obtain ⟨r31, h32, hm⟩ := bind_some hm
  refine ops_call0 hs27 (by kernel_rfl) (rsplit_walk (tx_ := tx_) (hm := h32) B _) ?_
  rintro _ _ w33 ⟨a29, c30, rfl, rfl⟩ hs34
  have hs35 := St.ap1 hs34
  refine zE 5 (hK28 _ _ ?_)
  refine W.sr fun K36 hK36 => ?_
  refine zR 4 ?_
  rcases Bool.eq_false_or_eq_true (decide (r23.2 = r31.2)) with h37 | h37
  ·
   obtain ⟨h37p, hm⟩ := iY hm h37
   refine zS 45 h37 ?_
   refine zS 44 h37 ?_
   refine zR 2 ?_
   obtain ⟨r38, h39, hm⟩ := bind_some hm
   refine zC00 hs35 (rsame16_walk (xs := r23.1) (ys := r31.1) (xc := c22) (yc := c30) (hx := (St.kcells kStr hs35 1 rfl)) (hy := (St.kcells kStr hs35 0 rfl)) (hm := h39) B _) fun w40 hs42 => ?_
   refine zR 2 ?_
   rcases Bool.eq_false_or_eq_true r38 with h43 | h43
   ·
    have h43p : r38 = true := h43
    replace hm := ite_yes hm h43p
    refine zS 50 h43 ?_
    refine zS 48 h43 ?_
    refine zS 49 h43 ?_
    refine zR 1 ?_
    obtain ⟨r44, h45, hm⟩ := bind_some hm
    refine zC00 hs42 (pjoin_walk (xs := xs) (hx := (hs42.oldCells hx)) (hcap := hcap) (hm := h45) B _) fun w46 hs48 => ?_
    refine zR 1 ?_
    obtain ⟨r49, h50, hm⟩ := bind_some hm
    refine zC00 hs48 (rjoin16_walk (xs := xs) (hx := (hs48.oldCells hx)) (hcap := hcap) (hm := h50) B _) fun w51 hs53 => ?_
    refine zR 3 ?_
    rcases Bool.eq_false_or_eq_true (r44.toList == r49.toList) with h54 | h54
    ·
     have h54p : (r44.toList == r49.toList) = true := h54
     replace hm := ite_yes hm h54p
     refine zS 57 h54 ?_
     refine zS 55 h54 ?_
     refine zS 56 h54 ?_
     obtain ⟨r55, h56, hm⟩ := bind_some hm
     refine zC00 hs53 (works16_walk (hm := h56) B _) fun w57 hs59 => ?_
     refine zE 2 (hK36 _ _ ?_)
     refine W.ret ?_
     have hs60 := St.tk0 hs59
     refine ret_of (.bool r55) (by kernel_rfl) ⟨_, ⟨congrArg Value.bool (some_inj hm), rfl⟩, hs60⟩
    have h54p : ¬ ((r44.toList == r49.toList) = true) := ne_true_of_eq_false h54
    replace hm := ite_no hm h54p
    refine zS 57 h54 ?_
    refine zS 55 h54 ?_
    refine zS 56 h54 ?_
    refine zE 3 (hK36 _ _ ?_)
    refine W.ret ?_
    have hs61 := St.tk0 hs53
    refine ret_of (.bool false) (by kernel_rfl) ⟨_, ⟨congrArg Value.bool (some_inj hm), rfl⟩, hs61⟩
   have h43p : ¬ (r38 = true) := ne_true_of_eq_false h43
   replace hm := ite_no hm h43p
   refine zS 50 h43 ?_
   refine zS 48 h43 ?_
   refine zS 49 h43 ?_
   refine zE 10 (hK36 _ _ ?_)
   refine W.ret ?_
   have hs62 := St.tk0 hs42
   refine ret_of (.bool false) (by kernel_rfl) ⟨_, ⟨congrArg Value.bool (some_inj hm), rfl⟩, hs62⟩
  obtain ⟨h37p, hm⟩ := iN hm h37
  refine zS 45 h37 ?_
  refine zS 44 h37 ?_
  refine zE 15 (hK36 _ _ ?_)
  refine W.ret ?_
  have hs63 := St.tk0 hs35
  refine ret_of (.bool false) (by kernel_rfl) ⟨_, ⟨congrArg Value.bool (some_inj hm), rfl⟩, hs63⟩
 refine W.sr fun K64 hK64 => ?_
 refine zE 1 (hK64 _ _ ?_)
 refine W.block ?_
 refine W.loop_iter (G := Int) (σ := Int) (fun | p65 => p65) (fun | p65, s_, w_ => (∃ us, s_ = slots 60 [(0, (.string tx_)), (1, (.slice xa xs.length xc)), (5, (zi p65))] us) ∧ St B w [] w_ []) 0 ⟨slots_intro _ (by kernel_rfl), hs⟩ hm ?_
 rintro k66 ih67 p65 _ w68 ⟨⟨us, rfl⟩, hs69⟩ hm
 replace hm : pathsplits_B0 tx_ xs k66 p65 = some true := hm
 unfold pathsplits_B0 at hm
 refine W.seq fun K70 hK70 => ?_
 refine W.sr fun K71 hK71 => ?_
 refine zE 4 (hK71 _ _ ?_)
 refine W.cond (decide (p65 < (xs.length : Int))) (by kernel_rfl) (fun h72 => ?_) (fun h72 => ?_)
 ·
  obtain ⟨h72p, hm⟩ := iY hm h72
  refine W.skip ?_
  refine hK70 _ _ ?_
  refine W.seq fun K73 hK73 => ?_
  refine W.block ?_
  refine W.sr fun K74 hK74 => ?_
  refine zR 2 ?_
  obtain ⟨h76, hm⟩ := need_some hm
  have hk75 := lt_toNat h76
  refine ops_R (runs_index (a := xa) (n := xs.length) (z := p65) (size := 1) p65.toNat (nat_of h76.1) hk75 (kStr.addr (hs69.oldCells hx) hk75) (by kernel_rfl)) ?_
  refine zL ((adr xa (p65.toNat * 1)).add 0) (.string (xs.getD p65.toNat ByteArray.empty)) (kStr.at (hs69.oldCells hx) hk75 ByteArray.empty 0 rfl) ?_
  refine zE 2 (hK74 _ _ ?_)
  refine W.cond (decide (((xs.getD p65.toNat ByteArray.empty).size : Int) > 300)) (by kernel_rfl) (fun h77 => ?_) (fun h77 => ?_)
  ·
   obtain ⟨h77p, hm⟩ := iY hm h77
   refine W.sr fun K78 hK78 => ?_
   obtain ⟨r79, h80, hm⟩ := bind_some hm
   refine zC00 hs69 (works16_walk (hm := h80) B _) fun w81 hs83 => ?_
   refine zE 1 (hK78 _ _ ?_)
   refine W.ret (ret_block (ret_seq (ret_seq (ret_block (ret_seq ?_)))))
   refine ret_of (.bool r79) (by kernel_rfl) ⟨_, ⟨congrArg Value.bool (some_inj hm), rfl⟩, hs83⟩
  obtain ⟨h77p, hm⟩ := iN hm h77
  refine W.skip ?_
  refine normal_block ?_
  refine hK73 _ _ ?_
  refine W.region ?_
  refine zR 1 ?_
  obtain ⟨h84, hm⟩ := need_some hm
  refine zI _ (wrap_i64 h84.1 h84.2) ?_
  refine zE 1 ?_
  refine loopAt_next ?_
  exact ih67 (p65 + 1) _ _ ⟨slots_intro _ (by kernel_rfl), hs69⟩ hm
 obtain ⟨h72p, hm⟩ := iN hm h72
 refine W.exit (exit_seq (exit_seq (exit_here ?_)))
 exact ⟨slots_intro _ (by kernel_rfl), hs69, hm⟩
end Go.Proofs.Ytmmclabkkigiaaa

namespace Go.Proofs.Ytmmclabkkigiaaa
open Go Go.RowKit
theorem getD_mem {xs : List ByteArray} {j : Nat} (h : j < xs.length) : xs.getD j ByteArray.empty = xs[j] := by simp [List.getD, h]
theorem pathsplits_law {tx_ : ByteArray} {xs : List ByteArray} : pathsplits_M tx_ xs = some true := by
  refine Ok.true ?_
  unfold pathsplits_M
  refine Ok.ite (fun _ => works16_stop) fun h1 => Ok.ite (fun _ => works16_stop) fun h2 => ?_
  refine Ok.iter (fun p : Int => 0 ≤ p ∧ p ≤ (xs.length : Int) ∧ ∀ j : Nat, j < p.toNat → (xs.getD j ByteArray.empty).size ≤ 300) (fun p => ((xs.length : Int) - p).toNat) ?_ _ _ ⟨by omega, by omega, fun j hj => absurd hj (Nat.not_lt_zero _)⟩ (fuel_lt (by omega))
  rintro k p ⟨h3, h4, h5⟩ ih
  unfold pathsplits_B0
  refine Ok.ite (fun hp => Ok.need (by omega) (Ok.ite (fun _ => works16_stop) fun h6 => Ok.need (by omega) (ih _ ⟨by omega, by omega, fun j hj => ?_⟩ (by omega)))) fun hp => ?_
  · by_cases e : j = p.toNat
    · rw [e]; omega
    · exact h5 j (by omega)
  · have hall : ∀ x ∈ xs, x.size ≤ 1000 := fun x hx => by
      obtain ⟨j, hj, rfl⟩ := List.getElem_of_mem hx
      have := h5 j (by omega)
      rw [getD_mem hj] at this
      omega
    have hsl := spl_len tx_
    unfold pathsplits_J1
    refine Ok.got15 (psplit_eq tx_) (Ok.got15 (rsplit_eq tx_) (Ok.yes rfl (Ok.got15 (rsame16_eq _ _ (by omega)) ?_)))
    rw [decide_eq_true rfl]
    exact Ok.yes rfl (Ok.got15 (pjoin_eq (by omega) hall) (Ok.got15 (rjoin_eq (by omega) hall) (Ok.yes (beq_toList.2 rfl) works16_stop)))
end Go.Proofs.Ytmmclabkkigiaaa
