/- Contracts of layers 6 and 7, by a program. -/
import Derived.Test.YthimamnblklkbaaLg
namespace Go.Proofs.Ythimamnblklkbaa
open Go Go.RowKit
set_option linter.unusedSimpArgs false
set_option linter.unusedVariables false

set_option maxRecDepth 20000 in
theorem within_spec {n_ f_ t_ : Int} (B : Nat) (w : World) : Spec Try.prog 63 #[(.int .i64 n_), (.int .i64 f_), (.int .i64 t_)] B w [] (fun v H' => v = .bool (decide (f_ ≤ n_ ∧ n_ ≤ t_)) ∧ H' = []) := by
  refine spec_Q Try.func63 rfl fun hs => ?_
  refine W.seq fun K1 hK1 => ?_
  refine W.region ?_
  refine ops_run 1 (by kernel_rfl) ?_
  refine ops_done (by kernel_rfl) ?_
  refine hK1 _ _ ?_
  clear hK1
  refine W.seq fun K2 hK2 => ?_
  refine W.region ?_
  refine ops_run 4 (by kernel_rfl) ?_
  rcases Bool.eq_false_or_eq_true (decide (n_ ≥ f_)) with h3 | h3
  ·
    have h3p : n_ ≥ f_ := of_decide_eq_true h3
    refine ops_set 10 (v := .bool true) (eq_bool_of (by kernel_rfl) h3) ?_
    refine ops_set 9 (v := .bool true) (eq_bool_of (by kernel_rfl) h3) ?_
    refine ops_run 5 (by kernel_rfl) ?_
    refine ops_done (by kernel_rfl) ?_
    refine hK2 _ _ ?_
    clear hK2
    refine W.ret ?_
    refine ret_of (.bool (decide (n_ ≤ t_))) (by kernel_rfl) ⟨_, ⟨congrArg Value.bool (decide_eq_decide.2 (by omega)), rfl⟩, hs⟩
  ·
    have h3p : ¬ (n_ ≥ f_) := of_decide_eq_false h3
    refine ops_set 10 (v := .bool false) (eq_bool_of (by kernel_rfl) h3) ?_
    refine ops_set 9 (v := .bool false) (eq_bool_of (by kernel_rfl) h3) ?_
    refine ops_run 5 (by kernel_rfl) ?_
    refine ops_done (by kernel_rfl) ?_
    refine hK2 _ _ ?_
    clear hK2
    refine W.ret ?_
    refine ret_of (.bool false) (by kernel_rfl) ⟨_, ⟨congrArg Value.bool (decide_eq_false (by omega)).symm, rfl⟩, hs⟩

set_option maxRecDepth 20000 in
theorem may_spec {gw gi gb : Int} (B : Nat) (w : World) : Spec Try.prog 48 #[(.agg #[(.int .i64 gw), (.int .i64 gi), (.int .i64 gb)])] B w [] (fun v H' => v = .bool (decide (May gw gi gb)) ∧ H' = []) := by
  refine spec_Q Try.func48 rfl fun hs => ?_
  refine W.seq fun K1 hK1 => ?_
  refine W.region ?_
  refine ops_new (fun b => .pointer (some ⟨b, 0, none⟩)) (.cells [(.int .i64 gw), (.int .i64 gi), (.int .i64 gb)].toArray 56 (0, 0)) hs (by kernel_rfl) (fun b4 w2 hs3 => ?_)
  refine ops_run 1 (by kernel_rfl) ?_
  refine ops_done (by kernel_rfl) ?_
  refine hK1 _ _ ?_
  clear hK1
  refine W.seq fun K5 hK5 => ?_
  refine W.region ?_
  refine ops_run 1 (by kernel_rfl) ?_
  refine ops_R (runs_load (ad := ⟨b4, 0, none⟩) (v := (.int .i64 gw)) (by kernel_rfl) (hs3.cellAt 0 rfl rfl)) ?_
  refine ops_call (pre := []) hs3 (by kernel_rfl) (within_spec (n_ := gw) (f_ := 1) (t_ := 4) B _) ?_
  rintro _ _ w6 ⟨rfl, rfl⟩ hs7
  have hs8 : St B w [] w6 [blk b4 (.cells [(.int .i64 gw), (.int .i64 gi), (.int .i64 gb)].toArray 56 (0, 0))] := hs7
  refine ops_run 1 (by kernel_rfl) ?_
  rcases Bool.eq_false_or_eq_true (decide (1 ≤ gw ∧ gw ≤ 4)) with h9 | h9
  ·
    have h9p : 1 ≤ gw ∧ gw ≤ 4 := of_decide_eq_true h9
    refine ops_set 6 (v := .bool true) (eq_bool_of (by kernel_rfl) h9) ?_
    refine ops_set 5 (v := .bool true) (eq_bool_of (by kernel_rfl) h9) ?_
    refine ops_run 1 (by kernel_rfl) ?_
    refine ops_R (runs_load (ad := ⟨b4, 1, none⟩) (v := (.int .i64 gi)) (by kernel_rfl) (hs8.cellAt 0 rfl rfl)) ?_
    refine ops_call (pre := []) hs8 (by kernel_rfl) (within_spec (n_ := gi) (f_ := 2) (t_ := 64) B _) ?_
    rintro _ _ w10 ⟨rfl, rfl⟩ hs11
    have hs12 : St B w [] w10 [blk b4 (.cells [(.int .i64 gw), (.int .i64 gi), (.int .i64 gb)].toArray 56 (0, 0))] := hs11
    refine ops_run 2 (by kernel_rfl) ?_
    rcases Bool.eq_false_or_eq_true (decide (2 ≤ gi ∧ gi ≤ 64)) with h13 | h13
    ·
      have h13p : 2 ≤ gi ∧ gi ≤ 64 := of_decide_eq_true h13
      refine ops_set 11 (v := .bool true) (eq_bool_of (by kernel_rfl) h13) ?_
      refine ops_set 9 (v := .bool true) (eq_bool_of (by kernel_rfl) h13) ?_
      refine ops_set 10 (v := .bool true) (eq_bool_of (by kernel_rfl) h13) ?_
      refine ops_run 1 (by kernel_rfl) ?_
      refine ops_R (runs_load (ad := ⟨b4, 2, none⟩) (v := (.int .i64 gb)) (by kernel_rfl) (hs12.cellAt 0 rfl rfl)) ?_
      refine ops_call (pre := []) hs12 (by kernel_rfl) (within_spec (n_ := gb) (f_ := 2) (t_ := 512) B _) ?_
      rintro _ _ w14 ⟨rfl, rfl⟩ hs15
      have hs16 : St B w [] w14 [blk b4 (.cells [(.int .i64 gw), (.int .i64 gi), (.int .i64 gb)].toArray 56 (0, 0))] := hs15
      refine ops_run 2 (by kernel_rfl) ?_
      refine ops_done (by kernel_rfl) ?_
      refine hK5 _ _ ?_
      clear hK5
      refine W.ret ?_
      have hs17 : St B w [] w14 [] := St.take (H := []) hs16
      refine ret_of (.bool (decide (2 ≤ gb ∧ gb ≤ 512))) (by kernel_rfl) ⟨_, ⟨congrArg Value.bool (decide_eq_decide.2 (by unfold May; omega)), rfl⟩, hs17⟩
    ·
      have h13p : ¬ (2 ≤ gi ∧ gi ≤ 64) := of_decide_eq_false h13
      refine ops_set 11 (v := .bool false) (eq_bool_of (by kernel_rfl) h13) ?_
      refine ops_set 9 (v := .bool false) (eq_bool_of (by kernel_rfl) h13) ?_
      refine ops_set 10 (v := .bool false) (eq_bool_of (by kernel_rfl) h13) ?_
      refine ops_run 5 (by kernel_rfl) ?_
      refine ops_done (by kernel_rfl) ?_
      refine hK5 _ _ ?_
      clear hK5
      refine W.ret ?_
      have hs18 : St B w [] w10 [] := St.take (H := []) hs12
      refine ret_of (.bool false) (by kernel_rfl) ⟨_, ⟨congrArg Value.bool (decide_eq_false (by unfold May; omega)).symm, rfl⟩, hs18⟩
  ·
    have h9p : ¬ (1 ≤ gw ∧ gw ≤ 4) := of_decide_eq_false h9
    refine ops_set 6 (v := .bool false) (eq_bool_of (by kernel_rfl) h9) ?_
    refine ops_set 5 (v := .bool false) (eq_bool_of (by kernel_rfl) h9) ?_
    refine ops_run 10 (by kernel_rfl) ?_
    refine ops_done (by kernel_rfl) ?_
    refine hK5 _ _ ?_
    clear hK5
    refine W.ret ?_
    have hs19 : St B w [] w6 [] := St.take (H := []) hs8
    refine ret_of (.bool false) (by kernel_rfl) ⟨_, ⟨congrArg Value.bool (decide_eq_false (by unfold May; omega)).symm, rfl⟩, hs19⟩

set_option maxRecDepth 20000 in
theorem rmay_spec {gw gi gb : Int} (B : Nat) (w : World) : Spec Try.prog 50 #[(.agg #[(.int .i64 gw), (.int .i64 gi), (.int .i64 gb)])] B w [] (fun v H' => v = .bool (decide (May gw gi gb)) ∧ H' = []) := by
  refine spec_Q Try.func50 rfl fun hs => ?_
  refine W.seq fun K1 hK1 => ?_
  refine W.region ?_
  refine ops_new (fun b => .pointer (some ⟨b, 0, none⟩)) (.cells [(.int .i64 gw), (.int .i64 gi), (.int .i64 gb)].toArray 61 (0, 0)) hs (by kernel_rfl) (fun b4 w2 hs3 => ?_)
  refine ops_run 1 (by kernel_rfl) ?_
  refine ops_done (by kernel_rfl) ?_
  refine hK1 _ _ ?_
  clear hK1
  refine W.seq fun K5 hK5 => ?_
  refine W.region ?_
  refine ops_run 1 (by kernel_rfl) ?_
  refine ops_R (runs_load (ad := ⟨b4, 0, none⟩) (v := (.int .i64 gw)) (by kernel_rfl) (hs3.cellAt 0 rfl rfl)) ?_
  refine ops_run 2 (by kernel_rfl) ?_
  rcases Bool.eq_false_or_eq_true (decide (gw ≥ 1)) with h6 | h6
  ·
    have h6p : gw ≥ 1 := of_decide_eq_true h6
    refine ops_set 6 (v := .bool true) (eq_bool_of (by kernel_rfl) h6) ?_
    refine ops_set 5 (v := .bool true) (eq_bool_of (by kernel_rfl) h6) ?_
    refine ops_run 1 (by kernel_rfl) ?_
    refine ops_R (runs_load (ad := ⟨b4, 0, none⟩) (v := (.int .i64 gw)) (by kernel_rfl) (hs3.cellAt 0 rfl rfl)) ?_
    refine ops_run 3 (by kernel_rfl) ?_
    rcases Bool.eq_false_or_eq_true (decide (gw ≤ 4)) with h7 | h7
    ·
      have h7p : gw ≤ 4 := of_decide_eq_true h7
      refine ops_set 11 (v := .bool true) (eq_bool_of (by kernel_rfl) h7) ?_
      refine ops_set 9 (v := .bool true) (eq_bool_of (by kernel_rfl) h7) ?_
      refine ops_set 10 (v := .bool true) (eq_bool_of (by kernel_rfl) h7) ?_
      refine ops_run 1 (by kernel_rfl) ?_
      refine ops_R (runs_load (ad := ⟨b4, 1, none⟩) (v := (.int .i64 gi)) (by kernel_rfl) (hs3.cellAt 0 rfl rfl)) ?_
      refine ops_run 3 (by kernel_rfl) ?_
      rcases Bool.eq_false_or_eq_true (decide (gi ≥ 2)) with h8 | h8
      ·
        have h8p : gi ≥ 2 := of_decide_eq_true h8
        refine ops_set 16 (v := .bool true) (eq_bool_of (by kernel_rfl) h8) ?_
        refine ops_set 14 (v := .bool true) (eq_bool_of (by kernel_rfl) h8) ?_
        refine ops_set 15 (v := .bool true) (eq_bool_of (by kernel_rfl) h8) ?_
        refine ops_run 1 (by kernel_rfl) ?_
        refine ops_R (runs_load (ad := ⟨b4, 1, none⟩) (v := (.int .i64 gi)) (by kernel_rfl) (hs3.cellAt 0 rfl rfl)) ?_
        refine ops_run 3 (by kernel_rfl) ?_
        rcases Bool.eq_false_or_eq_true (decide (gi ≤ 64)) with h9 | h9
        ·
          have h9p : gi ≤ 64 := of_decide_eq_true h9
          refine ops_set 21 (v := .bool true) (eq_bool_of (by kernel_rfl) h9) ?_
          refine ops_set 19 (v := .bool true) (eq_bool_of (by kernel_rfl) h9) ?_
          refine ops_set 20 (v := .bool true) (eq_bool_of (by kernel_rfl) h9) ?_
          refine ops_run 1 (by kernel_rfl) ?_
          refine ops_R (runs_load (ad := ⟨b4, 2, none⟩) (v := (.int .i64 gb)) (by kernel_rfl) (hs3.cellAt 0 rfl rfl)) ?_
          refine ops_run 3 (by kernel_rfl) ?_
          rcases Bool.eq_false_or_eq_true (decide (gb ≥ 2)) with h10 | h10
          ·
            have h10p : gb ≥ 2 := of_decide_eq_true h10
            refine ops_set 26 (v := .bool true) (eq_bool_of (by kernel_rfl) h10) ?_
            refine ops_set 24 (v := .bool true) (eq_bool_of (by kernel_rfl) h10) ?_
            refine ops_set 25 (v := .bool true) (eq_bool_of (by kernel_rfl) h10) ?_
            refine ops_run 1 (by kernel_rfl) ?_
            refine ops_R (runs_load (ad := ⟨b4, 2, none⟩) (v := (.int .i64 gb)) (by kernel_rfl) (hs3.cellAt 0 rfl rfl)) ?_
            refine ops_run 3 (by kernel_rfl) ?_
            refine ops_done (by kernel_rfl) ?_
            refine hK5 _ _ ?_
            clear hK5
            refine W.ret ?_
            have hs11 : St B w [] w2 [] := St.take (H := []) hs3
            refine ret_of (.bool (decide (gb ≤ 512))) (by kernel_rfl) ⟨_, ⟨congrArg Value.bool (decide_eq_decide.2 (by unfold May; omega)), rfl⟩, hs11⟩
          ·
            have h10p : ¬ (gb ≥ 2) := of_decide_eq_false h10
            refine ops_set 26 (v := .bool false) (eq_bool_of (by kernel_rfl) h10) ?_
            refine ops_set 24 (v := .bool false) (eq_bool_of (by kernel_rfl) h10) ?_
            refine ops_set 25 (v := .bool false) (eq_bool_of (by kernel_rfl) h10) ?_
            refine ops_run 5 (by kernel_rfl) ?_
            refine ops_done (by kernel_rfl) ?_
            refine hK5 _ _ ?_
            clear hK5
            refine W.ret ?_
            have hs12 : St B w [] w2 [] := St.take (H := []) hs3
            refine ret_of (.bool false) (by kernel_rfl) ⟨_, ⟨congrArg Value.bool (decide_eq_false (by unfold May; omega)).symm, rfl⟩, hs12⟩
        ·
          have h9p : ¬ (gi ≤ 64) := of_decide_eq_false h9
          refine ops_set 21 (v := .bool false) (eq_bool_of (by kernel_rfl) h9) ?_
          refine ops_set 19 (v := .bool false) (eq_bool_of (by kernel_rfl) h9) ?_
          refine ops_set 20 (v := .bool false) (eq_bool_of (by kernel_rfl) h9) ?_
          refine ops_run 10 (by kernel_rfl) ?_
          refine ops_done (by kernel_rfl) ?_
          refine hK5 _ _ ?_
          clear hK5
          refine W.ret ?_
          have hs13 : St B w [] w2 [] := St.take (H := []) hs3
          refine ret_of (.bool false) (by kernel_rfl) ⟨_, ⟨congrArg Value.bool (decide_eq_false (by unfold May; omega)).symm, rfl⟩, hs13⟩
      ·
        have h8p : ¬ (gi ≥ 2) := of_decide_eq_false h8
        refine ops_set 16 (v := .bool false) (eq_bool_of (by kernel_rfl) h8) ?_
        refine ops_set 14 (v := .bool false) (eq_bool_of (by kernel_rfl) h8) ?_
        refine ops_set 15 (v := .bool false) (eq_bool_of (by kernel_rfl) h8) ?_
        refine ops_run 15 (by kernel_rfl) ?_
        refine ops_done (by kernel_rfl) ?_
        refine hK5 _ _ ?_
        clear hK5
        refine W.ret ?_
        have hs14 : St B w [] w2 [] := St.take (H := []) hs3
        refine ret_of (.bool false) (by kernel_rfl) ⟨_, ⟨congrArg Value.bool (decide_eq_false (by unfold May; omega)).symm, rfl⟩, hs14⟩
    ·
      have h7p : ¬ (gw ≤ 4) := of_decide_eq_false h7
      refine ops_set 11 (v := .bool false) (eq_bool_of (by kernel_rfl) h7) ?_
      refine ops_set 9 (v := .bool false) (eq_bool_of (by kernel_rfl) h7) ?_
      refine ops_set 10 (v := .bool false) (eq_bool_of (by kernel_rfl) h7) ?_
      refine ops_run 20 (by kernel_rfl) ?_
      refine ops_done (by kernel_rfl) ?_
      refine hK5 _ _ ?_
      clear hK5
      refine W.ret ?_
      have hs15 : St B w [] w2 [] := St.take (H := []) hs3
      refine ret_of (.bool false) (by kernel_rfl) ⟨_, ⟨congrArg Value.bool (decide_eq_false (by unfold May; omega)).symm, rfl⟩, hs15⟩
  ·
    have h6p : ¬ (gw ≥ 1) := of_decide_eq_false h6
    refine ops_set 6 (v := .bool false) (eq_bool_of (by kernel_rfl) h6) ?_
    refine ops_set 5 (v := .bool false) (eq_bool_of (by kernel_rfl) h6) ?_
    refine ops_run 25 (by kernel_rfl) ?_
    refine ops_done (by kernel_rfl) ?_
    refine hK5 _ _ ?_
    clear hK5
    refine W.ret ?_
    have hs16 : St B w [] w2 [] := St.take (H := []) hs3
    refine ret_of (.bool false) (by kernel_rfl) ⟨_, ⟨congrArg Value.bool (decide_eq_false (by unfold May; omega)).symm, rfl⟩, hs16⟩

end Go.Proofs.Ythimamnblklkbaa
