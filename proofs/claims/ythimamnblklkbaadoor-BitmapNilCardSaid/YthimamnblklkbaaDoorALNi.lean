/- What the code computes, by a program. -/
import Derived.Test.YthimamnblklkbaaDoorA6w
namespace Go.Proofs.YthimamnblklkbaaDoor
open Go Go.RowKit
set_option linter.unusedSimpArgs false
set_option linter.unusedVariables false

def bitmapnil_M  : Option (Bool) :=
  (mclear0_M).bind fun r8 =>
if r8.1 = 0 then (if r8.2 = true then (some false) else ((mcount0_M).bind fun r22 =>
if r22 = 0 then ((works06_M).bind fun r28 =>
some r28) else (some false))) else (some false)

set_option maxRecDepth 20000 in
set_option maxHeartbeats 4000000 in
set_option linter.unusedVariables false in
theorem bitmapnil_walk {at_ : Int} {many : Int} {i_ : Int}   (B : Nat) (w : World) (hB : w.heap.size = B) (hT : CellsAt (some ⟨0, 0, none⟩) tab8 w) (hm : bitmapnil_M = some true) : Spec Tryd.prog 3 #[(.int .i64 at_), (.int .i64 many), (.int .i64 i_)] B w [] (fun v H' => v = .bool true ∧ H' = []) := by
  refine spec_Q Tryd.func3 rfl fun hs => ?_
  unfold bitmapnil_M at hm
  refine W.seq fun K1 hK1 => ?_
  refine W.region ?_
  refine ops_run 1 (by kernel_rfl) ?_
  refine ops_done (by kernel_rfl) ?_
  refine hK1 _ _ ?_
  clear hK1
  refine W.seq fun K2 hK2 => ?_
  refine W.region ?_
  refine ops_run 1 (by kernel_rfl) ?_
  refine ops_done (by kernel_rfl) ?_
  refine hK2 _ _ ?_
  clear hK2
  refine W.seq fun K3 hK3 => ?_
  refine W.region ?_
  refine ops_run 2 (by kernel_rfl) ?_
  refine ops_call (pre := []) hs (by kernel_rfl) (of_nil (at_ := at_) (many := many) B _) ?_
  rintro _ _ w4 ⟨rfl, rfl⟩ hs5
  have hs6 : St B w [] w4 [] := hs5
  refine ops_run 5 (by kernel_rfl) ?_
  refine ops_done (by kernel_rfl) ?_
  refine hK3 _ _ ?_
  clear hK3
  refine W.seq fun K7 hK7 => ?_
  refine W.region ?_
  refine ops_run 1 (by kernel_rfl) ?_
  obtain ⟨r8, h9, hm⟩ := bind_some hm
  refine ops_call (pre := []) hs6 (by kernel_rfl) (mclear0_walk (hm := h9) B _) ?_
  rintro _ _ w10 ⟨rfl, rfl⟩ hs11
  have hs12 : St B w [] w10 [] := hs11
  refine ops_run 5 (by kernel_rfl) ?_
  refine ops_done (by kernel_rfl) ?_
  refine hK7 _ _ ?_
  clear hK7
  refine W.seq fun K13 hK13 => ?_
  refine W.region ?_
  refine ops_run 2 (by kernel_rfl) ?_
  refine ops_call (pre := []) hs12 (by kernel_rfl) (mget_nil (i_ := i_) B _) ?_
  rintro _ _ w14 ⟨rfl, rfl⟩ hs15
  have hs16 : St B w [] w14 [] := hs15
  refine ops_run 4 (by kernel_rfl) ?_
  refine ops_call (pre := []) hs16 (by kernel_rfl) (mset_nil (i_ := i_) (is_ := true) B _) ?_
  rintro _ _ w17 ⟨rfl, rfl⟩ hs18
  have hs19 : St B w [] w17 [] := hs18
  refine ops_run 7 (by kernel_rfl) ?_
  rcases Bool.eq_false_or_eq_true (decide (r8.1 = 0)) with h20 | h20
  ·
    have h20p : r8.1 = 0 := of_decide_eq_true h20
    replace hm := ite_yes hm h20p
    refine ops_set 37 (v := .bool true) (eq_bool_of (by kernel_rfl) h20) ?_
    refine ops_set 35 (v := .bool true) (eq_bool_of (by kernel_rfl) h20) ?_
    refine ops_set 36 (v := .bool true) (eq_bool_of (by kernel_rfl) h20) ?_
    refine ops_run 4 (by kernel_rfl) ?_
    rcases Bool.eq_false_or_eq_true (!r8.2) with h21 | h21
    rotate_left
    ·
      have h21p : r8.2 = true := (bnot_false h21)
      replace hm := ite_yes hm h21p
      refine ops_set 41 (v := .bool false) (eq_bool_of (by kernel_rfl) h21) ?_
      refine ops_set 39 (v := .bool false) (eq_bool_of (by kernel_rfl) h21) ?_
      refine ops_set 40 (v := .bool false) (eq_bool_of (by kernel_rfl) h21) ?_
      refine ops_run 12 (by kernel_rfl) ?_
      refine ops_done (by kernel_rfl) ?_
      refine hK13 _ _ ?_
      clear hK13
      refine W.ret ?_
      refine ret_of (.bool false) (by kernel_rfl) ⟨_, ⟨congrArg Value.bool (some_inj hm), rfl⟩, hs19⟩
    ·
      have h21p : ¬ (r8.2 = true) := ne_true_of_eq_false (bnot_true h21)
      replace hm := ite_no hm h21p
      refine ops_set 41 (v := .bool true) (eq_bool_of (by kernel_rfl) h21) ?_
      refine ops_set 39 (v := .bool true) (eq_bool_of (by kernel_rfl) h21) ?_
      refine ops_set 40 (v := .bool true) (eq_bool_of (by kernel_rfl) h21) ?_
      refine ops_run 1 (by kernel_rfl) ?_
      obtain ⟨r22, h23, hm⟩ := bind_some hm
      refine ops_call (pre := []) hs19 (by kernel_rfl) (mcount0_walk (hm := h23) B _) ?_
      rintro _ _ w24 ⟨rfl, rfl⟩ hs25
      have hs26 : St B w [] w24 [] := hs25
      refine ops_run 3 (by kernel_rfl) ?_
      rcases Bool.eq_false_or_eq_true (decide (r22 = 0)) with h27 | h27
      ·
        have h27p : r22 = 0 := of_decide_eq_true h27
        replace hm := ite_yes hm h27p
        refine ops_set 46 (v := .bool true) (eq_bool_of (by kernel_rfl) h27) ?_
        refine ops_set 44 (v := .bool true) (eq_bool_of (by kernel_rfl) h27) ?_
        refine ops_set 45 (v := .bool true) (eq_bool_of (by kernel_rfl) h27) ?_
        refine ops_run 4 (by kernel_rfl) ?_
        obtain ⟨r28, h29, hm⟩ := bind_some hm
        refine ops_call (pre := []) hs26 (by kernel_rfl) (works06_walk (hT := (hs26.oldCells hT)) (hm := h29) B _) ?_
        rintro _ _ w30 ⟨rfl, rfl⟩ hs31
        have hs32 : St B w [] w30 [] := hs31
        refine ops_run 2 (by kernel_rfl) ?_
        refine ops_done (by kernel_rfl) ?_
        refine hK13 _ _ ?_
        clear hK13
        refine W.ret ?_
        refine ret_of (.bool r28) (by kernel_rfl) ⟨_, ⟨congrArg Value.bool (some_inj hm), rfl⟩, hs32⟩
      ·
        have h27p : ¬ (r22 = 0) := of_decide_eq_false h27
        replace hm := ite_no hm h27p
        refine ops_set 46 (v := .bool false) (eq_bool_of (by kernel_rfl) h27) ?_
        refine ops_set 44 (v := .bool false) (eq_bool_of (by kernel_rfl) h27) ?_
        refine ops_set 45 (v := .bool false) (eq_bool_of (by kernel_rfl) h27) ?_
        refine ops_run 7 (by kernel_rfl) ?_
        refine ops_done (by kernel_rfl) ?_
        refine hK13 _ _ ?_
        clear hK13
        refine W.ret ?_
        refine ret_of (.bool false) (by kernel_rfl) ⟨_, ⟨congrArg Value.bool (some_inj hm), rfl⟩, hs26⟩
  ·
    have h20p : ¬ (r8.1 = 0) := of_decide_eq_false h20
    replace hm := ite_no hm h20p
    refine ops_set 37 (v := .bool false) (eq_bool_of (by kernel_rfl) h20) ?_
    refine ops_set 35 (v := .bool false) (eq_bool_of (by kernel_rfl) h20) ?_
    refine ops_set 36 (v := .bool false) (eq_bool_of (by kernel_rfl) h20) ?_
    refine ops_run 16 (by kernel_rfl) ?_
    refine ops_done (by kernel_rfl) ?_
    refine hK13 _ _ ?_
    clear hK13
    refine W.ret ?_
    refine ret_of (.bool false) (by kernel_rfl) ⟨_, ⟨congrArg Value.bool (some_inj hm), rfl⟩, hs19⟩

end Go.Proofs.YthimamnblklkbaaDoor
