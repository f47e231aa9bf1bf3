/- Texts of one kind, one behind the other: F6a, F6b. -/
import Derived.Test.YthimamnblklkbaaDoorGC
set_option linter.unusedVariables false
set_option linter.unusedSimpArgs false
/- Contracts of layers 6 and 7, by a program. -/
namespace Go.Proofs.YthimamnblklkbaaDoor
open Go Go.RowKit
set_option linter.unusedSimpArgs false
set_option linter.unusedVariables false

set_option maxRecDepth 20000 in
theorem within_spec {n_ f_ t_ : Int} (B : Nat) (w : World) : Spec Tryd.prog 151 #[(.int .i64 n_), (.int .i64 f_), (.int .i64 t_)] B w [] (fun v H' => v = .bool (decide (f_ ≤ n_ ∧ n_ ≤ t_)) ∧ H' = []) := by
  refine spec_Q Tryd.func151 rfl fun hs => ?_
  refine W.seq fun K1 hK1 => ?_
  refine W.region ?_
  refine ops_run 1 (by kernel_rfl) ?_
  refine ops_done (by kernel_rfl) ?_
  refine hK1 _ _ ?_
  clear hK1
  refine W.seq fun K2 hK2 => ?_
  refine W.region ?_
  refine ops_run 4 (by kernel_rfl) ?_
  rcases Bool.eq_false_or_eq_true (decide (n_ ≥ f_)) with h3 | h3
  ·
    have h3p : n_ ≥ f_ := of_decide_eq_true h3
    refine ops_set 10 (v := .bool true) (eq_bool_of (by kernel_rfl) h3) ?_
    refine ops_set 9 (v := .bool true) (eq_bool_of (by kernel_rfl) h3) ?_
    refine ops_run 5 (by kernel_rfl) ?_
    refine ops_done (by kernel_rfl) ?_
    refine hK2 _ _ ?_
    clear hK2
    refine W.ret ?_
    refine ret_of (.bool (decide (n_ ≤ t_))) (by kernel_rfl) ⟨_, ⟨congrArg Value.bool (decide_eq_decide.2 (by omega)), rfl⟩, hs⟩
  ·
    have h3p : ¬ (n_ ≥ f_) := of_decide_eq_false h3
    refine ops_set 10 (v := .bool false) (eq_bool_of (by kernel_rfl) h3) ?_
    refine ops_set 9 (v := .bool false) (eq_bool_of (by kernel_rfl) h3) ?_
    refine ops_run 5 (by kernel_rfl) ?_
    refine ops_done (by kernel_rfl) ?_
    refine hK2 _ _ ?_
    clear hK2
    refine W.ret ?_
    refine ret_of (.bool false) (by kernel_rfl) ⟨_, ⟨congrArg Value.bool (decide_eq_false (by omega)).symm, rfl⟩, hs⟩

set_option maxRecDepth 20000 in
theorem may_spec {gw gi gb : Int} (B : Nat) (w : World) : Spec Tryd.prog 121 #[(.agg #[(.int .i64 gw), (.int .i64 gi), (.int .i64 gb)])] B w [] (fun v H' => v = .bool (decide (May gw gi gb)) ∧ H' = []) := by
  refine spec_Q Tryd.func121 rfl fun hs => ?_
  refine W.seq fun K1 hK1 => ?_
  refine W.region ?_
  refine ops_new (fun b => .pointer (some ⟨b, 0, none⟩)) (.cells [(.int .i64 gw), (.int .i64 gi), (.int .i64 gb)].toArray 63 (0, 0)) hs (by kernel_rfl) (fun b4 w2 hs3 => ?_)
  refine ops_run 1 (by kernel_rfl) ?_
  refine ops_done (by kernel_rfl) ?_
  refine hK1 _ _ ?_
  clear hK1
  refine W.seq fun K5 hK5 => ?_
  refine W.region ?_
  refine ops_run 1 (by kernel_rfl) ?_
  refine ops_R (runs_load (ad := ⟨b4, 0, none⟩) (v := (.int .i64 gw)) (by kernel_rfl) (hs3.cellAt 0 rfl rfl)) ?_
  refine ops_call0 hs3 (by kernel_rfl) (within_spec (n_ := gw) (f_ := 1) (t_ := 4) B _) ?_
  rintro _ _ w6 ⟨rfl, rfl⟩ hs7
  have hs8 := St.ap0 hs7
  refine ops_run 1 (by kernel_rfl) ?_
  rcases Bool.eq_false_or_eq_true (decide (1 ≤ gw ∧ gw ≤ 4)) with h9 | h9
  ·
    have h9p : 1 ≤ gw ∧ gw ≤ 4 := of_decide_eq_true h9
    refine ops_set 6 (v := .bool true) (eq_bool_of (by kernel_rfl) h9) ?_
    refine ops_set 5 (v := .bool true) (eq_bool_of (by kernel_rfl) h9) ?_
    refine ops_run 1 (by kernel_rfl) ?_
    refine ops_R (runs_load (ad := ⟨b4, 1, none⟩) (v := (.int .i64 gi)) (by kernel_rfl) (hs8.cellAt 0 rfl rfl)) ?_
    refine ops_call0 hs8 (by kernel_rfl) (within_spec (n_ := gi) (f_ := 2) (t_ := 64) B _) ?_
    rintro _ _ w10 ⟨rfl, rfl⟩ hs11
    have hs12 := St.ap0 hs11
    refine ops_run 2 (by kernel_rfl) ?_
    rcases Bool.eq_false_or_eq_true (decide (2 ≤ gi ∧ gi ≤ 64)) with h13 | h13
    ·
      have h13p : 2 ≤ gi ∧ gi ≤ 64 := of_decide_eq_true h13
      refine ops_set 11 (v := .bool true) (eq_bool_of (by kernel_rfl) h13) ?_
      refine ops_set 9 (v := .bool true) (eq_bool_of (by kernel_rfl) h13) ?_
      refine ops_set 10 (v := .bool true) (eq_bool_of (by kernel_rfl) h13) ?_
      refine ops_run 1 (by kernel_rfl) ?_
      refine ops_R (runs_load (ad := ⟨b4, 2, none⟩) (v := (.int .i64 gb)) (by kernel_rfl) (hs12.cellAt 0 rfl rfl)) ?_
      refine ops_call0 hs12 (by kernel_rfl) (within_spec (n_ := gb) (f_ := 2) (t_ := 512) B _) ?_
      rintro _ _ w14 ⟨rfl, rfl⟩ hs15
      have hs16 := St.ap0 hs15
      refine ops_run 2 (by kernel_rfl) ?_
      refine ops_done (by kernel_rfl) ?_
      refine hK5 _ _ ?_
      clear hK5
      refine W.ret ?_
      have hs17 := St.tk0 hs16
      refine ret_of (.bool (decide (2 ≤ gb ∧ gb ≤ 512))) (by kernel_rfl) ⟨_, ⟨congrArg Value.bool (decide_eq_decide.2 (by unfold May; omega)), rfl⟩, hs17⟩
    ·
      have h13p : ¬ (2 ≤ gi ∧ gi ≤ 64) := of_decide_eq_false h13
      refine ops_set 11 (v := .bool false) (eq_bool_of (by kernel_rfl) h13) ?_
      refine ops_set 9 (v := .bool false) (eq_bool_of (by kernel_rfl) h13) ?_
      refine ops_set 10 (v := .bool false) (eq_bool_of (by kernel_rfl) h13) ?_
      refine ops_run 5 (by kernel_rfl) ?_
      refine ops_done (by kernel_rfl) ?_
      refine hK5 _ _ ?_
      clear hK5
      refine W.ret ?_
      have hs18 := St.tk0 hs12
      refine ret_of (.bool false) (by kernel_rfl) ⟨_, ⟨congrArg Value.bool (decide_eq_false (by unfold May; omega)).symm, rfl⟩, hs18⟩
  ·
    have h9p : ¬ (1 ≤ gw ∧ gw ≤ 4) := of_decide_eq_false h9
    refine ops_set 6 (v := .bool false) (eq_bool_of (by kernel_rfl) h9) ?_
    refine ops_set 5 (v := .bool false) (eq_bool_of (by kernel_rfl) h9) ?_
    refine ops_run 10 (by kernel_rfl) ?_
    refine ops_done (by kernel_rfl) ?_
    refine hK5 _ _ ?_
    clear hK5
    refine W.ret ?_
    have hs19 := St.tk0 hs8
    refine ret_of (.bool false) (by kernel_rfl) ⟨_, ⟨congrArg Value.bool (decide_eq_false (by unfold May; omega)).symm, rfl⟩, hs19⟩

set_option maxRecDepth 20000 in
theorem rmay_spec {gw gi gb : Int} (B : Nat) (w : World) : Spec Tryd.prog 115 #[(.agg #[(.int .i64 gw), (.int .i64 gi), (.int .i64 gb)])] B w [] (fun v H' => v = .bool (decide (May gw gi gb)) ∧ H' = []) := by
  refine spec_Q Tryd.func115 rfl fun hs => ?_
  refine W.seq fun K1 hK1 => ?_
  refine W.region ?_
  refine ops_new (fun b => .pointer (some ⟨b, 0, none⟩)) (.cells [(.int .i64 gw), (.int .i64 gi), (.int .i64 gb)].toArray 88 (0, 0)) hs (by kernel_rfl) (fun b4 w2 hs3 => ?_)
  refine ops_run 1 (by kernel_rfl) ?_
  refine ops_done (by kernel_rfl) ?_
  refine hK1 _ _ ?_
  clear hK1
  refine W.seq fun K5 hK5 => ?_
  refine W.region ?_
  refine ops_run 1 (by kernel_rfl) ?_
  refine ops_R (runs_load (ad := ⟨b4, 0, none⟩) (v := (.int .i64 gw)) (by kernel_rfl) (hs3.cellAt 0 rfl rfl)) ?_
  refine ops_run 2 (by kernel_rfl) ?_
  rcases Bool.eq_false_or_eq_true (decide (gw ≥ 1)) with h6 | h6
  ·
    have h6p : gw ≥ 1 := of_decide_eq_true h6
    refine ops_set 6 (v := .bool true) (eq_bool_of (by kernel_rfl) h6) ?_
    refine ops_set 5 (v := .bool true) (eq_bool_of (by kernel_rfl) h6) ?_
    refine ops_run 1 (by kernel_rfl) ?_
    refine ops_R (runs_load (ad := ⟨b4, 0, none⟩) (v := (.int .i64 gw)) (by kernel_rfl) (hs3.cellAt 0 rfl rfl)) ?_
    refine ops_run 3 (by kernel_rfl) ?_
    rcases Bool.eq_false_or_eq_true (decide (gw ≤ 4)) with h7 | h7
    ·
      have h7p : gw ≤ 4 := of_decide_eq_true h7
      refine ops_set 11 (v := .bool true) (eq_bool_of (by kernel_rfl) h7) ?_
      refine ops_set 9 (v := .bool true) (eq_bool_of (by kernel_rfl) h7) ?_
      refine ops_set 10 (v := .bool true) (eq_bool_of (by kernel_rfl) h7) ?_
      refine ops_run 1 (by kernel_rfl) ?_
      refine ops_R (runs_load (ad := ⟨b4, 1, none⟩) (v := (.int .i64 gi)) (by kernel_rfl) (hs3.cellAt 0 rfl rfl)) ?_
      refine ops_run 3 (by kernel_rfl) ?_
      rcases Bool.eq_false_or_eq_true (decide (gi ≥ 2)) with h8 | h8
      ·
        have h8p : gi ≥ 2 := of_decide_eq_true h8
        refine ops_set 16 (v := .bool true) (eq_bool_of (by kernel_rfl) h8) ?_
        refine ops_set 14 (v := .bool true) (eq_bool_of (by kernel_rfl) h8) ?_
        refine ops_set 15 (v := .bool true) (eq_bool_of (by kernel_rfl) h8) ?_
        refine ops_run 1 (by kernel_rfl) ?_
        refine ops_R (runs_load (ad := ⟨b4, 1, none⟩) (v := (.int .i64 gi)) (by kernel_rfl) (hs3.cellAt 0 rfl rfl)) ?_
        refine ops_run 3 (by kernel_rfl) ?_
        rcases Bool.eq_false_or_eq_true (decide (gi ≤ 64)) with h9 | h9
        ·
          have h9p : gi ≤ 64 := of_decide_eq_true h9
          refine ops_set 21 (v := .bool true) (eq_bool_of (by kernel_rfl) h9) ?_
          refine ops_set 19 (v := .bool true) (eq_bool_of (by kernel_rfl) h9) ?_
          refine ops_set 20 (v := .bool true) (eq_bool_of (by kernel_rfl) h9) ?_
          refine ops_run 1 (by kernel_rfl) ?_
          refine ops_R (runs_load (ad := ⟨b4, 2, none⟩) (v := (.int .i64 gb)) (by kernel_rfl) (hs3.cellAt 0 rfl rfl)) ?_
          refine ops_run 3 (by kernel_rfl) ?_
          rcases Bool.eq_false_or_eq_true (decide (gb ≥ 2)) with h10 | h10
          ·
            have h10p : gb ≥ 2 := of_decide_eq_true h10
            refine ops_set 26 (v := .bool true) (eq_bool_of (by kernel_rfl) h10) ?_
            refine ops_set 24 (v := .bool true) (eq_bool_of (by kernel_rfl) h10) ?_
            refine ops_set 25 (v := .bool true) (eq_bool_of (by kernel_rfl) h10) ?_
            refine ops_run 1 (by kernel_rfl) ?_
            refine ops_R (runs_load (ad := ⟨b4, 2, none⟩) (v := (.int .i64 gb)) (by kernel_rfl) (hs3.cellAt 0 rfl rfl)) ?_
            refine ops_run 3 (by kernel_rfl) ?_
            refine ops_done (by kernel_rfl) ?_
            refine hK5 _ _ ?_
            clear hK5
            refine W.ret ?_
            have hs11 := St.tk0 hs3
            refine ret_of (.bool (decide (gb ≤ 512))) (by kernel_rfl) ⟨_, ⟨congrArg Value.bool (decide_eq_decide.2 (by unfold May; omega)), rfl⟩, hs11⟩
          ·
            have h10p : ¬ (gb ≥ 2) := of_decide_eq_false h10
            refine ops_set 26 (v := .bool false) (eq_bool_of (by kernel_rfl) h10) ?_
            refine ops_set 24 (v := .bool false) (eq_bool_of (by kernel_rfl) h10) ?_
            refine ops_set 25 (v := .bool false) (eq_bool_of (by kernel_rfl) h10) ?_
            refine ops_run 5 (by kernel_rfl) ?_
            refine ops_done (by kernel_rfl) ?_
            refine hK5 _ _ ?_
            clear hK5
            refine W.ret ?_
            have hs12 := St.tk0 hs3
            refine ret_of (.bool false) (by kernel_rfl) ⟨_, ⟨congrArg Value.bool (decide_eq_false (by unfold May; omega)).symm, rfl⟩, hs12⟩
        ·
          have h9p : ¬ (gi ≤ 64) := of_decide_eq_false h9
          refine ops_set 21 (v := .bool false) (eq_bool_of (by kernel_rfl) h9) ?_
          refine ops_set 19 (v := .bool false) (eq_bool_of (by kernel_rfl) h9) ?_
          refine ops_set 20 (v := .bool false) (eq_bool_of (by kernel_rfl) h9) ?_
          refine ops_run 10 (by kernel_rfl) ?_
          refine ops_done (by kernel_rfl) ?_
          refine hK5 _ _ ?_
          clear hK5
          refine W.ret ?_
          have hs13 := St.tk0 hs3
          refine ret_of (.bool false) (by kernel_rfl) ⟨_, ⟨congrArg Value.bool (decide_eq_false (by unfold May; omega)).symm, rfl⟩, hs13⟩
      ·
        have h8p : ¬ (gi ≥ 2) := of_decide_eq_false h8
        refine ops_set 16 (v := .bool false) (eq_bool_of (by kernel_rfl) h8) ?_
        refine ops_set 14 (v := .bool false) (eq_bool_of (by kernel_rfl) h8) ?_
        refine ops_set 15 (v := .bool false) (eq_bool_of (by kernel_rfl) h8) ?_
        refine ops_run 15 (by kernel_rfl) ?_
        refine ops_done (by kernel_rfl) ?_
        refine hK5 _ _ ?_
        clear hK5
        refine W.ret ?_
        have hs14 := St.tk0 hs3
        refine ret_of (.bool false) (by kernel_rfl) ⟨_, ⟨congrArg Value.bool (decide_eq_false (by unfold May; omega)).symm, rfl⟩, hs14⟩
    ·
      have h7p : ¬ (gw ≤ 4) := of_decide_eq_false h7
      refine ops_set 11 (v := .bool false) (eq_bool_of (by kernel_rfl) h7) ?_
      refine ops_set 9 (v := .bool false) (eq_bool_of (by kernel_rfl) h7) ?_
      refine ops_set 10 (v := .bool false) (eq_bool_of (by kernel_rfl) h7) ?_
      refine ops_run 20 (by kernel_rfl) ?_
      refine ops_done (by kernel_rfl) ?_
      refine hK5 _ _ ?_
      clear hK5
      refine W.ret ?_
      have hs15 := St.tk0 hs3
      refine ret_of (.bool false) (by kernel_rfl) ⟨_, ⟨congrArg Value.bool (decide_eq_false (by unfold May; omega)).symm, rfl⟩, hs15⟩
  ·
    have h6p : ¬ (gw ≥ 1) := of_decide_eq_false h6
    refine ops_set 6 (v := .bool false) (eq_bool_of (by kernel_rfl) h6) ?_
    refine ops_set 5 (v := .bool false) (eq_bool_of (by kernel_rfl) h6) ?_
    refine ops_run 25 (by kernel_rfl) ?_
    refine ops_done (by kernel_rfl) ?_
    refine hK5 _ _ ?_
    clear hK5
    refine W.ret ?_
    have hs16 := St.tk0 hs3
    refine ret_of (.bool false) (by kernel_rfl) ⟨_, ⟨congrArg Value.bool (decide_eq_false (by unfold May; omega)).symm, rfl⟩, hs16⟩

end Go.Proofs.YthimamnblklkbaaDoor

/- Contracts of layers 6 and 7, by a program. -/
namespace Go.Proofs.YthimamnblklkbaaDoor
open Go Go.RowKit
set_option linter.unusedSimpArgs false
set_option linter.unusedVariables false

set_option maxRecDepth 20000 in
theorem rows_spec {gw gi gb : Int} (B : Nat) (w : World) : Spec Tryd.prog 133 #[(.agg #[(.int .i64 gw), (.int .i64 gi), (.int .i64 gb)])] B w [] (fun v H' => v = (.agg #[(.int .u8 1), (.int .i64 8), (.int .i64 1), (.int .u8 2), (.int .i64 64), (.int .i64 4), (.int .u8 5), (.int .i64 208), (.int .i64 gw), (.int .u8 6), (.int .i64 8), (.int .i64 1), (.int .u8 7), (.int .i64 8), (.int .i64 1), (.int .u8 8), (.int .i64 16), (.int .i64 gi), (.int .u8 9), (.int .i64 8), (.int .i64 gb)]) ∧ H' = []) := by
  refine spec_Q Tryd.func133 rfl fun hs => ?_
  refine W.seq fun K1 hK1 => ?_
  refine W.region ?_
  refine ops_new (fun b => .pointer (some ⟨b, 0, none⟩)) (.cells [(.int .i64 gw), (.int .i64 gi), (.int .i64 gb)].toArray 63 (0, 0)) hs (by kernel_rfl) (fun b4 w2 hs3 => ?_)
  refine ops_new (fun b => .pointer (some ⟨b, 0, none⟩)) (.cells [(.int .u8 0), (.int .i64 0), (.int .i64 0), (.int .u8 0), (.int .i64 0), (.int .i64 0), (.int .u8 0), (.int .i64 0), (.int .i64 0), (.int .u8 0), (.int .i64 0), (.int .i64 0), (.int .u8 0), (.int .i64 0), (.int .i64 0), (.int .u8 0), (.int .i64 0), (.int .i64 0), (.int .u8 0), (.int .i64 0), (.int .i64 0)].toArray 197 (0, 0)) hs3 (by kernel_rfl) (fun b7 w5 hs6 => ?_)
  refine ops_done (by kernel_rfl) ?_
  refine hK1 _ _ ?_
  clear hK1
  refine W.seq fun K8 hK8 => ?_
  refine W.region ?_
  refine ops_run 3 (by kernel_rfl) ?_
  refine ops_R (runs_load (ad := ⟨b4, 0, none⟩) (v := (.int .i64 gw)) (by kernel_rfl) (hs6.cellAt 1 rfl rfl)) ?_
  refine ops_run 4 (by kernel_rfl) ?_
  refine ops_R (runs_load (ad := ⟨b4, 1, none⟩) (v := (.int .i64 gi)) (by kernel_rfl) (hs6.cellAt 1 rfl rfl)) ?_
  refine ops_run 2 (by kernel_rfl) ?_
  refine ops_R (runs_load (ad := ⟨b4, 2, none⟩) (v := (.int .i64 gb)) (by kernel_rfl) (hs6.cellAt 1 rfl rfl)) ?_
  refine ops_run 2 (by kernel_rfl) ?_
  refine ops_store (off := 0) (cs := [(.int .u8 0), (.int .i64 0), (.int .i64 0), (.int .u8 0), (.int .i64 0), (.int .i64 0), (.int .u8 0), (.int .i64 0), (.int .i64 0), (.int .u8 0), (.int .i64 0), (.int .i64 0), (.int .u8 0), (.int .i64 0), (.int .i64 0), (.int .u8 0), (.int .i64 0), (.int .i64 0), (.int .u8 0), (.int .i64 0), (.int .i64 0)]) (vs := [(.int .u8 1), (.int .i64 8), (.int .i64 1), (.int .u8 2), (.int .i64 64), (.int .i64 4), (.int .u8 5), (.int .i64 208), (.int .i64 gw), (.int .u8 6), (.int .i64 8), (.int .i64 1), (.int .u8 7), (.int .i64 8), (.int .i64 1), (.int .u8 8), (.int .i64 16), (.int .i64 gi), (.int .u8 9), (.int .i64 8), (.int .i64 gb)]) hs6 (by kernel_rfl) (by simp) rfl (fun w9 hs10 => ?_)
  have hs11 : St B w [] w9 [blk b7 (.cells [(.int .u8 1), (.int .i64 8), (.int .i64 1), (.int .u8 2), (.int .i64 64), (.int .i64 4), (.int .u8 5), (.int .i64 208), (.int .i64 gw), (.int .u8 6), (.int .i64 8), (.int .i64 1), (.int .u8 7), (.int .i64 8), (.int .i64 1), (.int .u8 8), (.int .i64 16), (.int .i64 gi), (.int .u8 9), (.int .i64 8), (.int .i64 gb)].toArray 197 (0, 0)), blk b4 (.cells [(.int .i64 gw), (.int .i64 gi), (.int .i64 gb)].toArray 63 (0, 0))] := hs10
  refine ops_done (by kernel_rfl) ?_
  refine hK8 _ _ ?_
  clear hK8
  refine W.ret ?_
  have hs12 := St.tk0 hs11
  refine ret_of (.agg #[(.int .u8 1), (.int .i64 8), (.int .i64 1), (.int .u8 2), (.int .i64 64), (.int .i64 4), (.int .u8 5), (.int .i64 208), (.int .i64 gw), (.int .u8 6), (.int .i64 8), (.int .i64 1), (.int .u8 7), (.int .i64 8), (.int .i64 1), (.int .u8 8), (.int .i64 16), (.int .i64 gi), (.int .u8 9), (.int .i64 8), (.int .i64 gb)]) (results_cell (ad := ⟨b7, 0, none⟩) (cs := [(.int .u8 1), (.int .i64 8), (.int .i64 1), (.int .u8 2), (.int .i64 64), (.int .i64 4), (.int .u8 5), (.int .i64 208), (.int .i64 gw), (.int .u8 6), (.int .i64 8), (.int .i64 1), (.int .u8 7), (.int .i64 8), (.int .i64 1), (.int .u8 8), (.int .i64 16), (.int .i64 gi), (.int .u8 9), (.int .i64 8), (.int .i64 gb)]) rfl (by kernel_rfl) (by kernel_rfl) (cells_sub (hs11.heapAt 0 rfl) rfl)) ⟨_, ⟨rfl, rfl⟩, hs12⟩

set_option maxRecDepth 20000 in
theorem lwords_spec {gw gi gb : Int} (B : Nat) (w : World) : Spec Tryd.prog 79 #[(.agg #[(.int .i64 gw), (.int .i64 gi), (.int .i64 gb)])] B w [] (fun v H' => v = .int .i64 (wordsOf gw gi gb) ∧ H' = []) := by
  refine spec_Q Tryd.func79 rfl fun hs => ?_
  refine W.seq fun K1 hK1 => ?_
  refine W.region ?_
  refine ops_new (fun b => .pointer (some ⟨b, 0, none⟩)) (.cells [(.int .i64 gw), (.int .i64 gi), (.int .i64 gb)].toArray 63 (0, 0)) hs (by kernel_rfl) (fun b4 w2 hs3 => ?_)
  refine ops_run 1 (by kernel_rfl) ?_
  refine ops_done (by kernel_rfl) ?_
  refine hK1 _ _ ?_
  clear hK1
  refine W.seq fun K5 hK5 => ?_
  refine W.seq fun K6 hK6 => ?_
  refine W.region ?_
  refine ops_R (runs_loadAgg (ad := ⟨b4, 0, none⟩) (cs := [(.int .i64 gw), (.int .i64 gi), (.int .i64 gb)]) (by kernel_rfl) (cells_sub (hs3.heapAt 0 rfl) rfl)) ?_
  refine ops_call0 hs3 (by kernel_rfl) (may_spec (gw := gw) (gi := gi) (gb := gb) B _) ?_
  rintro _ _ w7 ⟨rfl, rfl⟩ hs8
  have hs9 := St.ap0 hs8
  refine ops_run 1 (by kernel_rfl) ?_
  refine ops_done (by kernel_rfl) ?_
  refine hK6 _ _ ?_
  clear hK6
  refine W.cond (!(decide (May gw gi gb))) (by kernel_rfl) (fun h10 => ?_) (fun h10 => ?_)
  ·
    have h10p : ¬ (May gw gi gb) := of_decide_eq_false (bnot_true h10)
    have hm : ¬ May gw gi gb := h10p
    refine W.seq fun K11 hK11 => ?_
    refine W.region ?_
    refine ops_run 1 (by kernel_rfl) ?_
    refine ops_done (by kernel_rfl) ?_
    refine hK11 _ _ ?_
    clear hK11
    refine W.ret (ret_seq ?_)
    have hs12 := St.tk0 hs9
    refine ret_of (.int .i64 0) (by kernel_rfl) ⟨_, ⟨congrArg (Value.int .i64) (by first | contradiction | (simp only [wordsOf, if_pos hm]; omega) | (simp only [wordsOf, if_neg hm]; done)), rfl⟩, hs12⟩
  ·
    have h10p : May gw gi gb := of_decide_eq_true (bnot_false h10)
    have hm : May gw gi gb := h10p
    have hm_ : (1 ≤ gw ∧ gw ≤ 4) ∧ (2 ≤ gi ∧ gi ≤ 64) ∧ (2 ≤ gb ∧ gb ≤ 512) := hm
    refine W.skip ?_
    refine hK5 _ _ ?_
    clear hK5
    refine W.seq fun K13 hK13 => ?_
    refine W.seq fun K14 hK14 => ?_
    refine W.region ?_
    refine ops_R (runs_loadAgg (ad := ⟨b4, 0, none⟩) (cs := [(.int .i64 gw), (.int .i64 gi), (.int .i64 gb)]) (by kernel_rfl) (cells_sub (hs9.heapAt 0 rfl) rfl)) ?_
    refine ops_call0 hs9 (by kernel_rfl) (rows_spec (gw := gw) (gi := gi) (gb := gb) B _) ?_
    rintro _ _ w15 ⟨rfl, rfl⟩ hs16
    have hs17 := St.ap0 hs16
    refine ops_run 1 (by kernel_rfl) ?_
    refine ops_done (by kernel_rfl) ?_
    refine hK14 _ _ ?_
    clear hK14
    refine W.block ?_
    refine W.loop_start ?_
    refine loopAt_round ?_
    refine W.seq fun K18 hK18 => ?_
    refine W.region ?_
    refine ops_run 1 (by kernel_rfl) ?_
    refine ops_done (by kernel_rfl) ?_
    refine hK18 _ _ ?_
    clear hK18
    refine W.seq fun K19 hK19 => ?_
    refine W.cond_true true (by kernel_rfl) rfl ?_
    refine W.skip ?_
    refine hK19 _ _ ?_
    clear hK19
    refine W.seq fun K20 hK20 => ?_
    refine W.block ?_
    refine W.seq fun K21 hK21 => ?_
    refine W.region ?_
    refine ops_run 1 (by kernel_rfl) ?_
    refine ops_new (fun b => .pointer (some ⟨b, 0, none⟩)) (.cells [(.int .u8 0), (.int .i64 0), (.int .i64 0)].toArray 196 (0, 0)) hs17 (by kernel_rfl) (fun b24 w22 hs23 => ?_)
    refine ops_store (off := 0) (cs := [(.int .u8 0), (.int .i64 0), (.int .i64 0)]) (vs := [(.int .u8 1), (.int .i64 8), (.int .i64 1)]) hs23 (by kernel_rfl) (by simp) rfl (fun w25 hs26 => ?_)
    have hs27 : St B w [] w25 [blk b24 (.cells [(.int .u8 1), (.int .i64 8), (.int .i64 1)].toArray 196 (0, 0)), blk b4 (.cells [(.int .i64 gw), (.int .i64 gi), (.int .i64 gb)].toArray 63 (0, 0))] := hs26
    refine ops_done (by kernel_rfl) ?_
    refine hK21 _ _ ?_
    clear hK21
    refine W.region ?_
    refine ops_run 2 (by kernel_rfl) ?_
    refine ops_R (runs_load (ad := ⟨b24, 1, none⟩) (v := (.int .i64 8)) (by kernel_rfl) (hs27.cellAt 0 rfl rfl)) ?_
    refine ops_run 1 (by kernel_rfl) ?_
    refine ops_R (runs_load (ad := ⟨b24, 2, none⟩) (v := (.int .i64 1)) (by kernel_rfl) (hs27.cellAt 0 rfl rfl)) ?_
    refine ops_run 3 (by kernel_rfl) ?_
    refine ops_done (by kernel_rfl) ?_
    refine normal_block ?_
    refine hK20 _ _ ?_
    clear hK20
    refine W.region ?_
    refine ops_run 2 (by kernel_rfl) ?_
    refine ops_done (by kernel_rfl) ?_
    refine loopAt_next ?_
    refine loopAt_round ?_
    refine W.seq fun K28 hK28 => ?_
    refine W.region ?_
    refine ops_run 1 (by kernel_rfl) ?_
    refine ops_done (by kernel_rfl) ?_
    refine hK28 _ _ ?_
    clear hK28
    refine W.seq fun K29 hK29 => ?_
    refine W.cond_true true (by kernel_rfl) rfl ?_
    refine W.skip ?_
    refine hK29 _ _ ?_
    clear hK29
    refine W.seq fun K30 hK30 => ?_
    refine W.block ?_
    refine W.seq fun K31 hK31 => ?_
    refine W.region ?_
    refine ops_run 1 (by kernel_rfl) ?_
    refine ops_new (fun b => .pointer (some ⟨b, 0, none⟩)) (.cells [(.int .u8 0), (.int .i64 0), (.int .i64 0)].toArray 196 (0, 0)) hs27 (by kernel_rfl) (fun b34 w32 hs33 => ?_)
    refine ops_store (off := 0) (cs := [(.int .u8 0), (.int .i64 0), (.int .i64 0)]) (vs := [(.int .u8 2), (.int .i64 64), (.int .i64 4)]) hs33 (by kernel_rfl) (by simp) rfl (fun w35 hs36 => ?_)
    have hs37 : St B w [] w35 [blk b34 (.cells [(.int .u8 2), (.int .i64 64), (.int .i64 4)].toArray 196 (0, 0)), blk b24 (.cells [(.int .u8 1), (.int .i64 8), (.int .i64 1)].toArray 196 (0, 0)), blk b4 (.cells [(.int .i64 gw), (.int .i64 gi), (.int .i64 gb)].toArray 63 (0, 0))] := hs36
    refine ops_done (by kernel_rfl) ?_
    refine hK31 _ _ ?_
    clear hK31
    refine W.region ?_
    refine ops_run 2 (by kernel_rfl) ?_
    refine ops_R (runs_load (ad := ⟨b34, 1, none⟩) (v := (.int .i64 64)) (by kernel_rfl) (hs37.cellAt 0 rfl rfl)) ?_
    refine ops_run 1 (by kernel_rfl) ?_
    refine ops_R (runs_load (ad := ⟨b34, 2, none⟩) (v := (.int .i64 4)) (by kernel_rfl) (hs37.cellAt 0 rfl rfl)) ?_
    refine ops_run 3 (by kernel_rfl) ?_
    refine ops_done (by kernel_rfl) ?_
    refine normal_block ?_
    refine hK30 _ _ ?_
    clear hK30
    refine W.region ?_
    refine ops_run 2 (by kernel_rfl) ?_
    refine ops_done (by kernel_rfl) ?_
    refine loopAt_next ?_
    refine loopAt_round ?_
    refine W.seq fun K38 hK38 => ?_
    refine W.region ?_
    refine ops_run 1 (by kernel_rfl) ?_
    refine ops_done (by kernel_rfl) ?_
    refine hK38 _ _ ?_
    clear hK38
    refine W.seq fun K39 hK39 => ?_
    refine W.cond_true true (by kernel_rfl) rfl ?_
    refine W.skip ?_
    refine hK39 _ _ ?_
    clear hK39
    refine W.seq fun K40 hK40 => ?_
    refine W.block ?_
    refine W.seq fun K41 hK41 => ?_
    refine W.region ?_
    refine ops_run 1 (by kernel_rfl) ?_
    refine ops_new (fun b => .pointer (some ⟨b, 0, none⟩)) (.cells [(.int .u8 0), (.int .i64 0), (.int .i64 0)].toArray 196 (0, 0)) hs37 (by kernel_rfl) (fun b44 w42 hs43 => ?_)
    refine ops_store (off := 0) (cs := [(.int .u8 0), (.int .i64 0), (.int .i64 0)]) (vs := [(.int .u8 5), (.int .i64 208), (.int .i64 gw)]) hs43 (by kernel_rfl) (by simp) rfl (fun w45 hs46 => ?_)
    have hs47 : St B w [] w45 [blk b44 (.cells [(.int .u8 5), (.int .i64 208), (.int .i64 gw)].toArray 196 (0, 0)), blk b34 (.cells [(.int .u8 2), (.int .i64 64), (.int .i64 4)].toArray 196 (0, 0)), blk b24 (.cells [(.int .u8 1), (.int .i64 8), (.int .i64 1)].toArray 196 (0, 0)), blk b4 (.cells [(.int .i64 gw), (.int .i64 gi), (.int .i64 gb)].toArray 63 (0, 0))] := hs46
    refine ops_done (by kernel_rfl) ?_
    refine hK41 _ _ ?_
    clear hK41
    refine W.region ?_
    refine ops_run 2 (by kernel_rfl) ?_
    refine ops_R (runs_load (ad := ⟨b44, 1, none⟩) (v := (.int .i64 208)) (by kernel_rfl) (hs47.cellAt 0 rfl rfl)) ?_
    refine ops_run 1 (by kernel_rfl) ?_
    refine ops_R (runs_load (ad := ⟨b44, 2, none⟩) (v := (.int .i64 gw)) (by kernel_rfl) (hs47.cellAt 0 rfl rfl)) ?_
    refine ops_val (v := .int .i64 (IntKind.i64.wrap (208 * gw))) (v' := .int .i64 (208 * gw)) (by kernel_rfl) (congrArg (Value.int .i64) (wrap_i64 (by omega) (by omega))) ?_
    refine ops_val (v := .int .i64 (IntKind.i64.wrap (264 + (208 * gw)))) (v' := .int .i64 (264 + (208 * gw))) (by kernel_rfl) (congrArg (Value.int .i64) (wrap_i64 (by omega) (by omega))) ?_
    refine ops_run 1 (by kernel_rfl) ?_
    refine ops_done (by kernel_rfl) ?_
    refine normal_block ?_
    refine hK40 _ _ ?_
    clear hK40
    refine W.region ?_
    refine ops_run 2 (by kernel_rfl) ?_
    refine ops_done (by kernel_rfl) ?_
    refine loopAt_next ?_
    refine loopAt_round ?_
    refine W.seq fun K48 hK48 => ?_
    refine W.region ?_
    refine ops_run 1 (by kernel_rfl) ?_
    refine ops_done (by kernel_rfl) ?_
    refine hK48 _ _ ?_
    clear hK48
    refine W.seq fun K49 hK49 => ?_
    refine W.cond_true true (by kernel_rfl) rfl ?_
    refine W.skip ?_
    refine hK49 _ _ ?_
    clear hK49
    refine W.seq fun K50 hK50 => ?_
    refine W.block ?_
    refine W.seq fun K51 hK51 => ?_
    refine W.region ?_
    refine ops_run 1 (by kernel_rfl) ?_
    refine ops_new (fun b => .pointer (some ⟨b, 0, none⟩)) (.cells [(.int .u8 0), (.int .i64 0), (.int .i64 0)].toArray 196 (0, 0)) hs47 (by kernel_rfl) (fun b54 w52 hs53 => ?_)
    refine ops_store (off := 0) (cs := [(.int .u8 0), (.int .i64 0), (.int .i64 0)]) (vs := [(.int .u8 6), (.int .i64 8), (.int .i64 1)]) hs53 (by kernel_rfl) (by simp) rfl (fun w55 hs56 => ?_)
    have hs57 : St B w [] w55 [blk b54 (.cells [(.int .u8 6), (.int .i64 8), (.int .i64 1)].toArray 196 (0, 0)), blk b44 (.cells [(.int .u8 5), (.int .i64 208), (.int .i64 gw)].toArray 196 (0, 0)), blk b34 (.cells [(.int .u8 2), (.int .i64 64), (.int .i64 4)].toArray 196 (0, 0)), blk b24 (.cells [(.int .u8 1), (.int .i64 8), (.int .i64 1)].toArray 196 (0, 0)), blk b4 (.cells [(.int .i64 gw), (.int .i64 gi), (.int .i64 gb)].toArray 63 (0, 0))] := hs56
    refine ops_done (by kernel_rfl) ?_
    refine hK51 _ _ ?_
    clear hK51
    refine W.region ?_
    refine ops_run 2 (by kernel_rfl) ?_
    refine ops_R (runs_load (ad := ⟨b54, 1, none⟩) (v := (.int .i64 8)) (by kernel_rfl) (hs57.cellAt 0 rfl rfl)) ?_
    refine ops_run 1 (by kernel_rfl) ?_
    refine ops_R (runs_load (ad := ⟨b54, 2, none⟩) (v := (.int .i64 1)) (by kernel_rfl) (hs57.cellAt 0 rfl rfl)) ?_
    refine ops_run 1 (by kernel_rfl) ?_
    refine ops_val (v := .int .i64 (IntKind.i64.wrap ((264 + (208 * gw)) + 8))) (v' := .int .i64 ((264 + (208 * gw)) + 8)) (by kernel_rfl) (congrArg (Value.int .i64) (wrap_i64 (by omega) (by omega))) ?_
    refine ops_run 1 (by kernel_rfl) ?_
    refine ops_done (by kernel_rfl) ?_
    refine normal_block ?_
    refine hK50 _ _ ?_
    clear hK50
    refine W.region ?_
    refine ops_run 2 (by kernel_rfl) ?_
    refine ops_done (by kernel_rfl) ?_
    refine loopAt_next ?_
    refine loopAt_round ?_
    refine W.seq fun K58 hK58 => ?_
    refine W.region ?_
    refine ops_run 1 (by kernel_rfl) ?_
    refine ops_done (by kernel_rfl) ?_
    refine hK58 _ _ ?_
    clear hK58
    refine W.seq fun K59 hK59 => ?_
    refine W.cond_true true (by kernel_rfl) rfl ?_
    refine W.skip ?_
    refine hK59 _ _ ?_
    clear hK59
    refine W.seq fun K60 hK60 => ?_
    refine W.block ?_
    refine W.seq fun K61 hK61 => ?_
    refine W.region ?_
    refine ops_run 1 (by kernel_rfl) ?_
    refine ops_new (fun b => .pointer (some ⟨b, 0, none⟩)) (.cells [(.int .u8 0), (.int .i64 0), (.int .i64 0)].toArray 196 (0, 0)) hs57 (by kernel_rfl) (fun b64 w62 hs63 => ?_)
    refine ops_store (off := 0) (cs := [(.int .u8 0), (.int .i64 0), (.int .i64 0)]) (vs := [(.int .u8 7), (.int .i64 8), (.int .i64 1)]) hs63 (by kernel_rfl) (by simp) rfl (fun w65 hs66 => ?_)
    have hs67 : St B w [] w65 [blk b64 (.cells [(.int .u8 7), (.int .i64 8), (.int .i64 1)].toArray 196 (0, 0)), blk b54 (.cells [(.int .u8 6), (.int .i64 8), (.int .i64 1)].toArray 196 (0, 0)), blk b44 (.cells [(.int .u8 5), (.int .i64 208), (.int .i64 gw)].toArray 196 (0, 0)), blk b34 (.cells [(.int .u8 2), (.int .i64 64), (.int .i64 4)].toArray 196 (0, 0)), blk b24 (.cells [(.int .u8 1), (.int .i64 8), (.int .i64 1)].toArray 196 (0, 0)), blk b4 (.cells [(.int .i64 gw), (.int .i64 gi), (.int .i64 gb)].toArray 63 (0, 0))] := hs66
    refine ops_done (by kernel_rfl) ?_
    refine hK61 _ _ ?_
    clear hK61
    refine W.region ?_
    refine ops_run 2 (by kernel_rfl) ?_
    refine ops_R (runs_load (ad := ⟨b64, 1, none⟩) (v := (.int .i64 8)) (by kernel_rfl) (hs67.cellAt 0 rfl rfl)) ?_
    refine ops_run 1 (by kernel_rfl) ?_
    refine ops_R (runs_load (ad := ⟨b64, 2, none⟩) (v := (.int .i64 1)) (by kernel_rfl) (hs67.cellAt 0 rfl rfl)) ?_
    refine ops_run 1 (by kernel_rfl) ?_
    refine ops_val (v := .int .i64 (IntKind.i64.wrap (((264 + (208 * gw)) + 8) + 8))) (v' := .int .i64 (((264 + (208 * gw)) + 8) + 8)) (by kernel_rfl) (congrArg (Value.int .i64) (wrap_i64 (by omega) (by omega))) ?_
    refine ops_run 1 (by kernel_rfl) ?_
    refine ops_done (by kernel_rfl) ?_
    refine normal_block ?_
    refine hK60 _ _ ?_
    clear hK60
    refine W.region ?_
    refine ops_run 2 (by kernel_rfl) ?_
    refine ops_done (by kernel_rfl) ?_
    refine loopAt_next ?_
    refine loopAt_round ?_
    refine W.seq fun K68 hK68 => ?_
    refine W.region ?_
    refine ops_run 1 (by kernel_rfl) ?_
    refine ops_done (by kernel_rfl) ?_
    refine hK68 _ _ ?_
    clear hK68
    refine W.seq fun K69 hK69 => ?_
    refine W.cond_true true (by kernel_rfl) rfl ?_
    refine W.skip ?_
    refine hK69 _ _ ?_
    clear hK69
    refine W.seq fun K70 hK70 => ?_
    refine W.block ?_
    refine W.seq fun K71 hK71 => ?_
    refine W.region ?_
    refine ops_run 1 (by kernel_rfl) ?_
    refine ops_new (fun b => .pointer (some ⟨b, 0, none⟩)) (.cells [(.int .u8 0), (.int .i64 0), (.int .i64 0)].toArray 196 (0, 0)) hs67 (by kernel_rfl) (fun b74 w72 hs73 => ?_)
    refine ops_store (off := 0) (cs := [(.int .u8 0), (.int .i64 0), (.int .i64 0)]) (vs := [(.int .u8 8), (.int .i64 16), (.int .i64 gi)]) hs73 (by kernel_rfl) (by simp) rfl (fun w75 hs76 => ?_)
    have hs77 : St B w [] w75 [blk b74 (.cells [(.int .u8 8), (.int .i64 16), (.int .i64 gi)].toArray 196 (0, 0)), blk b64 (.cells [(.int .u8 7), (.int .i64 8), (.int .i64 1)].toArray 196 (0, 0)), blk b54 (.cells [(.int .u8 6), (.int .i64 8), (.int .i64 1)].toArray 196 (0, 0)), blk b44 (.cells [(.int .u8 5), (.int .i64 208), (.int .i64 gw)].toArray 196 (0, 0)), blk b34 (.cells [(.int .u8 2), (.int .i64 64), (.int .i64 4)].toArray 196 (0, 0)), blk b24 (.cells [(.int .u8 1), (.int .i64 8), (.int .i64 1)].toArray 196 (0, 0)), blk b4 (.cells [(.int .i64 gw), (.int .i64 gi), (.int .i64 gb)].toArray 63 (0, 0))] := hs76
    refine ops_done (by kernel_rfl) ?_
    refine hK71 _ _ ?_
    clear hK71
    refine W.region ?_
    refine ops_run 2 (by kernel_rfl) ?_
    refine ops_R (runs_load (ad := ⟨b74, 1, none⟩) (v := (.int .i64 16)) (by kernel_rfl) (hs77.cellAt 0 rfl rfl)) ?_
    refine ops_run 1 (by kernel_rfl) ?_
    refine ops_R (runs_load (ad := ⟨b74, 2, none⟩) (v := (.int .i64 gi)) (by kernel_rfl) (hs77.cellAt 0 rfl rfl)) ?_
    refine ops_val (v := .int .i64 (IntKind.i64.wrap (16 * gi))) (v' := .int .i64 (16 * gi)) (by kernel_rfl) (congrArg (Value.int .i64) (wrap_i64 (by omega) (by omega))) ?_
    refine ops_val (v := .int .i64 (IntKind.i64.wrap ((((264 + (208 * gw)) + 8) + 8) + (16 * gi)))) (v' := .int .i64 ((((264 + (208 * gw)) + 8) + 8) + (16 * gi))) (by kernel_rfl) (congrArg (Value.int .i64) (wrap_i64 (by omega) (by omega))) ?_
    refine ops_run 1 (by kernel_rfl) ?_
    refine ops_done (by kernel_rfl) ?_
    refine normal_block ?_
    refine hK70 _ _ ?_
    clear hK70
    refine W.region ?_
    refine ops_run 2 (by kernel_rfl) ?_
    refine ops_done (by kernel_rfl) ?_
    refine loopAt_next ?_
    refine loopAt_round ?_
    refine W.seq fun K78 hK78 => ?_
    refine W.region ?_
    refine ops_run 1 (by kernel_rfl) ?_
    refine ops_done (by kernel_rfl) ?_
    refine hK78 _ _ ?_
    clear hK78
    refine W.seq fun K79 hK79 => ?_
    refine W.cond_true true (by kernel_rfl) rfl ?_
    refine W.skip ?_
    refine hK79 _ _ ?_
    clear hK79
    refine W.seq fun K80 hK80 => ?_
    refine W.block ?_
    refine W.seq fun K81 hK81 => ?_
    refine W.region ?_
    refine ops_run 1 (by kernel_rfl) ?_
    refine ops_new (fun b => .pointer (some ⟨b, 0, none⟩)) (.cells [(.int .u8 0), (.int .i64 0), (.int .i64 0)].toArray 196 (0, 0)) hs77 (by kernel_rfl) (fun b84 w82 hs83 => ?_)
    refine ops_store (off := 0) (cs := [(.int .u8 0), (.int .i64 0), (.int .i64 0)]) (vs := [(.int .u8 9), (.int .i64 8), (.int .i64 gb)]) hs83 (by kernel_rfl) (by simp) rfl (fun w85 hs86 => ?_)
    have hs87 : St B w [] w85 [blk b84 (.cells [(.int .u8 9), (.int .i64 8), (.int .i64 gb)].toArray 196 (0, 0)), blk b74 (.cells [(.int .u8 8), (.int .i64 16), (.int .i64 gi)].toArray 196 (0, 0)), blk b64 (.cells [(.int .u8 7), (.int .i64 8), (.int .i64 1)].toArray 196 (0, 0)), blk b54 (.cells [(.int .u8 6), (.int .i64 8), (.int .i64 1)].toArray 196 (0, 0)), blk b44 (.cells [(.int .u8 5), (.int .i64 208), (.int .i64 gw)].toArray 196 (0, 0)), blk b34 (.cells [(.int .u8 2), (.int .i64 64), (.int .i64 4)].toArray 196 (0, 0)), blk b24 (.cells [(.int .u8 1), (.int .i64 8), (.int .i64 1)].toArray 196 (0, 0)), blk b4 (.cells [(.int .i64 gw), (.int .i64 gi), (.int .i64 gb)].toArray 63 (0, 0))] := hs86
    refine ops_done (by kernel_rfl) ?_
    refine hK81 _ _ ?_
    clear hK81
    refine W.region ?_
    refine ops_run 2 (by kernel_rfl) ?_
    refine ops_R (runs_load (ad := ⟨b84, 1, none⟩) (v := (.int .i64 8)) (by kernel_rfl) (hs87.cellAt 0 rfl rfl)) ?_
    refine ops_run 1 (by kernel_rfl) ?_
    refine ops_R (runs_load (ad := ⟨b84, 2, none⟩) (v := (.int .i64 gb)) (by kernel_rfl) (hs87.cellAt 0 rfl rfl)) ?_
    refine ops_val (v := .int .i64 (IntKind.i64.wrap (8 * gb))) (v' := .int .i64 (8 * gb)) (by kernel_rfl) (congrArg (Value.int .i64) (wrap_i64 (by omega) (by omega))) ?_
    refine ops_val (v := .int .i64 (IntKind.i64.wrap (((((264 + (208 * gw)) + 8) + 8) + (16 * gi)) + (8 * gb)))) (v' := .int .i64 (((((264 + (208 * gw)) + 8) + 8) + (16 * gi)) + (8 * gb))) (by kernel_rfl) (congrArg (Value.int .i64) (wrap_i64 (by omega) (by omega))) ?_
    refine ops_run 1 (by kernel_rfl) ?_
    refine ops_done (by kernel_rfl) ?_
    refine normal_block ?_
    refine hK80 _ _ ?_
    clear hK80
    refine W.region ?_
    refine ops_run 2 (by kernel_rfl) ?_
    refine ops_done (by kernel_rfl) ?_
    refine loopAt_next ?_
    refine loopAt_round ?_
    refine W.seq fun K88 hK88 => ?_
    refine W.region ?_
    refine ops_run 1 (by kernel_rfl) ?_
    refine ops_done (by kernel_rfl) ?_
    refine hK88 _ _ ?_
    clear hK88
    refine W.seq fun K89 hK89 => ?_
    refine W.cond_false false (by kernel_rfl) rfl ?_
    refine W.exit (exit_seq (exit_seq (exit_here ?_)))
    refine hK13 _ _ ?_
    clear hK13
    refine W.seq fun K90 hK90 => ?_
    refine W.region ?_
    refine ops_run 2 (by kernel_rfl) ?_
    refine ops_done (by kernel_rfl) ?_
    refine hK90 _ _ ?_
    clear hK90
    refine W.ret ?_
    have hs91 := St.tk0 hs87
    refine ret_of (.int .i64 (((((264 + (208 * gw)) + 8) + 8) + (16 * gi)) + (8 * gb))) (by kernel_rfl) ⟨_, ⟨congrArg (Value.int .i64) (by first | contradiction | (simp only [wordsOf, if_pos hm]; omega) | (simp only [wordsOf, if_neg hm]; done)), rfl⟩, hs91⟩

set_option maxRecDepth 20000 in
theorem place2_may {gw gi gb n_ : Int} (B : Nat) (w : World) (hm : May gw gi gb) : Spec Tryd.prog 134 #[(.agg #[(.int .i64 gw), (.int .i64 gi), (.int .i64 gb)]), (.int .u8 2), (.int .i64 n_)] B w [] (fun v H' => v = .int .i64 (placeOf 2 gw gi gb n_) ∧ H' = []) := by
  refine spec_Q Tryd.func134 rfl fun hs => ?_
  have hm_ : (1 ≤ gw ∧ gw ≤ 4) ∧ (2 ≤ gi ∧ gi ≤ 64) ∧ (2 ≤ gb ∧ gb ≤ 512) := hm
  refine W.seq fun K1 hK1 => ?_
  refine W.region ?_
  refine ops_new (fun b => .pointer (some ⟨b, 0, none⟩)) (.cells [(.int .i64 gw), (.int .i64 gi), (.int .i64 gb)].toArray 63 (0, 0)) hs (by kernel_rfl) (fun b4 w2 hs3 => ?_)
  refine ops_run 1 (by kernel_rfl) ?_
  refine ops_done (by kernel_rfl) ?_
  refine hK1 _ _ ?_
  clear hK1
  refine W.seq fun K5 hK5 => ?_
  refine W.region ?_
  refine ops_run 1 (by kernel_rfl) ?_
  refine ops_done (by kernel_rfl) ?_
  refine hK5 _ _ ?_
  clear hK5
  refine W.seq fun K6 hK6 => ?_
  refine W.seq fun K7 hK7 => ?_
  refine W.region ?_
  refine ops_R (runs_loadAgg (ad := ⟨b4, 0, none⟩) (cs := [(.int .i64 gw), (.int .i64 gi), (.int .i64 gb)]) (by kernel_rfl) (cells_sub (hs3.heapAt 0 rfl) rfl)) ?_
  refine ops_call0 hs3 (by kernel_rfl) (rows_spec (gw := gw) (gi := gi) (gb := gb) B _) ?_
  rintro _ _ w8 ⟨rfl, rfl⟩ hs9
  have hs10 := St.ap0 hs9
  refine ops_run 1 (by kernel_rfl) ?_
  refine ops_done (by kernel_rfl) ?_
  refine hK7 _ _ ?_
  clear hK7
  refine W.block ?_
  refine W.loop_start ?_
  refine loopAt_round ?_
  refine W.seq fun K11 hK11 => ?_
  refine W.region ?_
  refine ops_run 1 (by kernel_rfl) ?_
  refine ops_done (by kernel_rfl) ?_
  refine hK11 _ _ ?_
  clear hK11
  refine W.seq fun K12 hK12 => ?_
  refine W.cond_true true (by kernel_rfl) rfl ?_
  refine W.skip ?_
  refine hK12 _ _ ?_
  clear hK12
  refine W.seq fun K13 hK13 => ?_
  refine W.block ?_
  refine W.seq fun K14 hK14 => ?_
  refine W.region ?_
  refine ops_run 1 (by kernel_rfl) ?_
  refine ops_new (fun b => .pointer (some ⟨b, 0, none⟩)) (.cells [(.int .u8 0), (.int .i64 0), (.int .i64 0)].toArray 196 (0, 0)) hs10 (by kernel_rfl) (fun b17 w15 hs16 => ?_)
  refine ops_store (off := 0) (cs := [(.int .u8 0), (.int .i64 0), (.int .i64 0)]) (vs := [(.int .u8 1), (.int .i64 8), (.int .i64 1)]) hs16 (by kernel_rfl) (by simp) rfl (fun w18 hs19 => ?_)
  have hs20 : St B w [] w18 [blk b17 (.cells [(.int .u8 1), (.int .i64 8), (.int .i64 1)].toArray 196 (0, 0)), blk b4 (.cells [(.int .i64 gw), (.int .i64 gi), (.int .i64 gb)].toArray 63 (0, 0))] := hs19
  refine ops_done (by kernel_rfl) ?_
  refine hK14 _ _ ?_
  clear hK14
  refine W.seq fun K21 hK21 => ?_
  refine W.seq fun K22 hK22 => ?_
  refine W.region ?_
  refine ops_run 1 (by kernel_rfl) ?_
  refine ops_R (runs_load (ad := ⟨b17, 0, none⟩) (v := (.int .u8 1)) (by kernel_rfl) (hs20.cellAt 0 rfl rfl)) ?_
  refine ops_run 2 (by kernel_rfl) ?_
  refine ops_done (by kernel_rfl) ?_
  refine hK22 _ _ ?_
  clear hK22
  refine W.cond_true true (by kernel_rfl) rfl ?_
  refine W.seq fun K23 hK23 => ?_
  refine W.region ?_
  refine ops_run 2 (by kernel_rfl) ?_
  refine ops_R (runs_load (ad := ⟨b17, 1, none⟩) (v := (.int .i64 8)) (by kernel_rfl) (hs20.cellAt 0 rfl rfl)) ?_
  refine ops_run 1 (by kernel_rfl) ?_
  refine ops_R (runs_load (ad := ⟨b17, 2, none⟩) (v := (.int .i64 1)) (by kernel_rfl) (hs20.cellAt 0 rfl rfl)) ?_
  refine ops_run 3 (by kernel_rfl) ?_
  refine ops_done (by kernel_rfl) ?_
  refine hK23 _ _ ?_
  clear hK23
  refine W.exit (exit_seq (exit_here ?_))
  refine hK13 _ _ ?_
  clear hK13
  refine W.region ?_
  refine ops_run 2 (by kernel_rfl) ?_
  refine ops_done (by kernel_rfl) ?_
  refine loopAt_next ?_
  refine loopAt_round ?_
  refine W.seq fun K24 hK24 => ?_
  refine W.region ?_
  refine ops_run 1 (by kernel_rfl) ?_
  refine ops_done (by kernel_rfl) ?_
  refine hK24 _ _ ?_
  clear hK24
  refine W.seq fun K25 hK25 => ?_
  refine W.cond_true true (by kernel_rfl) rfl ?_
  refine W.skip ?_
  refine hK25 _ _ ?_
  clear hK25
  refine W.seq fun K26 hK26 => ?_
  refine W.block ?_
  refine W.seq fun K27 hK27 => ?_
  refine W.region ?_
  refine ops_run 1 (by kernel_rfl) ?_
  refine ops_new (fun b => .pointer (some ⟨b, 0, none⟩)) (.cells [(.int .u8 0), (.int .i64 0), (.int .i64 0)].toArray 196 (0, 0)) hs20 (by kernel_rfl) (fun b30 w28 hs29 => ?_)
  refine ops_store (off := 0) (cs := [(.int .u8 0), (.int .i64 0), (.int .i64 0)]) (vs := [(.int .u8 2), (.int .i64 64), (.int .i64 4)]) hs29 (by kernel_rfl) (by simp) rfl (fun w31 hs32 => ?_)
  have hs33 : St B w [] w31 [blk b30 (.cells [(.int .u8 2), (.int .i64 64), (.int .i64 4)].toArray 196 (0, 0)), blk b17 (.cells [(.int .u8 1), (.int .i64 8), (.int .i64 1)].toArray 196 (0, 0)), blk b4 (.cells [(.int .i64 gw), (.int .i64 gi), (.int .i64 gb)].toArray 63 (0, 0))] := hs32
  refine ops_done (by kernel_rfl) ?_
  refine hK27 _ _ ?_
  clear hK27
  refine W.seq fun K34 hK34 => ?_
  refine W.seq fun K35 hK35 => ?_
  refine W.region ?_
  refine ops_run 1 (by kernel_rfl) ?_
  refine ops_R (runs_load (ad := ⟨b30, 0, none⟩) (v := (.int .u8 2)) (by kernel_rfl) (hs33.cellAt 0 rfl rfl)) ?_
  refine ops_run 2 (by kernel_rfl) ?_
  refine ops_done (by kernel_rfl) ?_
  refine hK35 _ _ ?_
  clear hK35
  refine W.cond_false false (by kernel_rfl) rfl ?_
  refine W.skip ?_
  refine hK34 _ _ ?_
  clear hK34
  refine W.seq fun K36 hK36 => ?_
  refine W.seq fun K37 hK37 => ?_
  refine W.region ?_
  refine ops_R (runs_loadAgg (ad := ⟨b4, 0, none⟩) (cs := [(.int .i64 gw), (.int .i64 gi), (.int .i64 gb)]) (by kernel_rfl) (cells_sub (hs33.heapAt 2 rfl) rfl)) ?_
  refine ops_call0 hs33 (by kernel_rfl) (may_spec (gw := gw) (gi := gi) (gb := gb) B _) ?_
  rintro _ _ w38 ⟨rfl, rfl⟩ hs39
  have hs40 := St.ap0 hs39
  refine ops_run 1 (by kernel_rfl) ?_
  rcases Bool.eq_false_or_eq_true (decide (May gw gi gb)) with h41 | h41
  ·
    have h41p : May gw gi gb := of_decide_eq_true h41
    refine ops_set 28 (v := .bool true) (eq_bool_of (by kernel_rfl) h41) ?_
    refine ops_set 27 (v := .bool true) (eq_bool_of (by kernel_rfl) h41) ?_
    refine ops_run 2 (by kernel_rfl) ?_
    refine ops_R (runs_load (ad := ⟨b30, 2, none⟩) (v := (.int .i64 4)) (by kernel_rfl) (hs40.cellAt 0 rfl rfl)) ?_
    refine ops_run 1 (by kernel_rfl) ?_
    refine ops_call0 hs40 (by kernel_rfl) (within_spec (n_ := n_) (f_ := 0) (t_ := 3) B _) ?_
    rintro _ _ w42 ⟨rfl, rfl⟩ hs43
    have hs44 := St.ap0 hs43
    refine ops_run 1 (by kernel_rfl) ?_
    refine ops_done (by kernel_rfl) ?_
    refine hK37 _ _ ?_
    clear hK37
    refine W.cond (decide (0 ≤ n_ ∧ n_ ≤ 3)) (by kernel_rfl) (fun h45 => ?_) (fun h45 => ?_)
    ·
      have h45p : 0 ≤ n_ ∧ n_ ≤ 3 := of_decide_eq_true h45
      refine W.seq fun K46 hK46 => ?_
      refine W.region ?_
      refine ops_run 2 (by kernel_rfl) ?_
      refine ops_R (runs_load (ad := ⟨b30, 1, none⟩) (v := (.int .i64 64)) (by kernel_rfl) (hs44.cellAt 0 rfl rfl)) ?_
      refine ops_run 1 (by kernel_rfl) ?_
      refine ops_val (v := .int .i64 (IntKind.i64.wrap (64 * n_))) (v' := .int .i64 (64 * n_)) (by kernel_rfl) (congrArg (Value.int .i64) (wrap_i64 (by omega) (by omega))) ?_
      refine ops_val (v := .int .i64 (IntKind.i64.wrap (8 + (64 * n_)))) (v' := .int .i64 (8 + (64 * n_))) (by kernel_rfl) (congrArg (Value.int .i64) (wrap_i64 (by omega) (by omega))) ?_
      refine ops_run 1 (by kernel_rfl) ?_
      refine ops_done (by kernel_rfl) ?_
      refine hK46 _ _ ?_
      clear hK46
      refine W.ret (ret_seq (ret_block (ret_seq (ret_seq (ret_block (ret_seq ?_))))))
      have hs47 := St.tk0 hs44
      refine ret_of (.int .i64 (8 + (64 * n_))) (by kernel_rfl) ⟨_, ⟨congrArg (Value.int .i64) (by first | contradiction | (simp only [placeOf, if_pos hm]; split <;> omega) | (simp only [placeOf, if_neg hm]; done) | (simp only [placeOf, if_pos hm]; omega)), rfl⟩, hs47⟩
    ·
      have h45p : ¬ (0 ≤ n_ ∧ n_ ≤ 3) := of_decide_eq_false h45
      refine W.skip ?_
      refine hK36 _ _ ?_
      clear hK36
      refine W.exit (exit_block (by decide) (exit_seq (exit_seq (exit_here ?_))))
      refine hK6 _ _ ?_
      clear hK6
      refine W.seq fun K48 hK48 => ?_
      refine W.region ?_
      refine ops_run 1 (by kernel_rfl) ?_
      refine ops_done (by kernel_rfl) ?_
      refine hK48 _ _ ?_
      clear hK48
      refine W.ret ?_
      have hs49 := St.tk0 hs44
      refine ret_of (.int .i64 (-1)) (by kernel_rfl) ⟨_, ⟨congrArg (Value.int .i64) (by first | contradiction | (simp only [placeOf, if_pos hm]; split <;> omega) | (simp only [placeOf, if_neg hm]; done) | (simp only [placeOf, if_pos hm]; omega)), rfl⟩, hs49⟩
  ·
    have h41p : ¬ (May gw gi gb) := of_decide_eq_false h41
    refine ops_set 28 (v := .bool false) (eq_bool_of (by kernel_rfl) h41) ?_
    refine ops_set 27 (v := .bool false) (eq_bool_of (by kernel_rfl) h41) ?_
    refine ops_run 6 (by kernel_rfl) ?_
    refine ops_done (by kernel_rfl) ?_
    refine hK37 _ _ ?_
    clear hK37
    refine W.cond_false false (by kernel_rfl) rfl ?_
    refine W.skip ?_
    refine hK36 _ _ ?_
    clear hK36
    refine W.exit (exit_block (by decide) (exit_seq (exit_seq (exit_here ?_))))
    refine hK6 _ _ ?_
    clear hK6
    refine W.seq fun K50 hK50 => ?_
    refine W.region ?_
    refine ops_run 1 (by kernel_rfl) ?_
    refine ops_done (by kernel_rfl) ?_
    refine hK50 _ _ ?_
    clear hK50
    refine W.ret ?_
    have hs51 := St.tk0 hs40
    refine ret_of (.int .i64 (-1)) (by kernel_rfl) ⟨_, ⟨congrArg (Value.int .i64) (by first | contradiction | (simp only [placeOf, if_pos hm]; split <;> omega) | (simp only [placeOf, if_neg hm]; done) | (simp only [placeOf, if_pos hm]; omega)), rfl⟩, hs51⟩

set_option maxRecDepth 20000 in
theorem place2_not {gw gi gb n_ : Int} (B : Nat) (w : World) (hm : ¬ May gw gi gb) : Spec Tryd.prog 134 #[(.agg #[(.int .i64 gw), (.int .i64 gi), (.int .i64 gb)]), (.int .u8 2), (.int .i64 n_)] B w [] (fun v H' => v = .int .i64 (placeOf 2 gw gi gb n_) ∧ H' = []) := by
  refine spec_Q Tryd.func134 rfl fun hs => ?_
  refine W.seq fun K1 hK1 => ?_
  refine W.region ?_
  refine ops_new (fun b => .pointer (some ⟨b, 0, none⟩)) (.cells [(.int .i64 gw), (.int .i64 gi), (.int .i64 gb)].toArray 63 (0, 0)) hs (by kernel_rfl) (fun b4 w2 hs3 => ?_)
  refine ops_run 1 (by kernel_rfl) ?_
  refine ops_done (by kernel_rfl) ?_
  refine hK1 _ _ ?_
  clear hK1
  refine W.seq fun K5 hK5 => ?_
  refine W.region ?_
  refine ops_run 1 (by kernel_rfl) ?_
  refine ops_done (by kernel_rfl) ?_
  refine hK5 _ _ ?_
  clear hK5
  refine W.seq fun K6 hK6 => ?_
  refine W.seq fun K7 hK7 => ?_
  refine W.region ?_
  refine ops_R (runs_loadAgg (ad := ⟨b4, 0, none⟩) (cs := [(.int .i64 gw), (.int .i64 gi), (.int .i64 gb)]) (by kernel_rfl) (cells_sub (hs3.heapAt 0 rfl) rfl)) ?_
  refine ops_call0 hs3 (by kernel_rfl) (rows_spec (gw := gw) (gi := gi) (gb := gb) B _) ?_
  rintro _ _ w8 ⟨rfl, rfl⟩ hs9
  have hs10 := St.ap0 hs9
  refine ops_run 1 (by kernel_rfl) ?_
  refine ops_done (by kernel_rfl) ?_
  refine hK7 _ _ ?_
  clear hK7
  refine W.block ?_
  refine W.loop_start ?_
  refine loopAt_round ?_
  refine W.seq fun K11 hK11 => ?_
  refine W.region ?_
  refine ops_run 1 (by kernel_rfl) ?_
  refine ops_done (by kernel_rfl) ?_
  refine hK11 _ _ ?_
  clear hK11
  refine W.seq fun K12 hK12 => ?_
  refine W.cond_true true (by kernel_rfl) rfl ?_
  refine W.skip ?_
  refine hK12 _ _ ?_
  clear hK12
  refine W.seq fun K13 hK13 => ?_
  refine W.block ?_
  refine W.seq fun K14 hK14 => ?_
  refine W.region ?_
  refine ops_run 1 (by kernel_rfl) ?_
  refine ops_new (fun b => .pointer (some ⟨b, 0, none⟩)) (.cells [(.int .u8 0), (.int .i64 0), (.int .i64 0)].toArray 196 (0, 0)) hs10 (by kernel_rfl) (fun b17 w15 hs16 => ?_)
  refine ops_store (off := 0) (cs := [(.int .u8 0), (.int .i64 0), (.int .i64 0)]) (vs := [(.int .u8 1), (.int .i64 8), (.int .i64 1)]) hs16 (by kernel_rfl) (by simp) rfl (fun w18 hs19 => ?_)
  have hs20 : St B w [] w18 [blk b17 (.cells [(.int .u8 1), (.int .i64 8), (.int .i64 1)].toArray 196 (0, 0)), blk b4 (.cells [(.int .i64 gw), (.int .i64 gi), (.int .i64 gb)].toArray 63 (0, 0))] := hs19
  refine ops_done (by kernel_rfl) ?_
  refine hK14 _ _ ?_
  clear hK14
  refine W.seq fun K21 hK21 => ?_
  refine W.seq fun K22 hK22 => ?_
  refine W.region ?_
  refine ops_run 1 (by kernel_rfl) ?_
  refine ops_R (runs_load (ad := ⟨b17, 0, none⟩) (v := (.int .u8 1)) (by kernel_rfl) (hs20.cellAt 0 rfl rfl)) ?_
  refine ops_run 2 (by kernel_rfl) ?_
  refine ops_done (by kernel_rfl) ?_
  refine hK22 _ _ ?_
  clear hK22
  refine W.cond_true true (by kernel_rfl) rfl ?_
  refine W.seq fun K23 hK23 => ?_
  refine W.region ?_
  refine ops_run 2 (by kernel_rfl) ?_
  refine ops_R (runs_load (ad := ⟨b17, 1, none⟩) (v := (.int .i64 8)) (by kernel_rfl) (hs20.cellAt 0 rfl rfl)) ?_
  refine ops_run 1 (by kernel_rfl) ?_
  refine ops_R (runs_load (ad := ⟨b17, 2, none⟩) (v := (.int .i64 1)) (by kernel_rfl) (hs20.cellAt 0 rfl rfl)) ?_
  refine ops_run 3 (by kernel_rfl) ?_
  refine ops_done (by kernel_rfl) ?_
  refine hK23 _ _ ?_
  clear hK23
  refine W.exit (exit_seq (exit_here ?_))
  refine hK13 _ _ ?_
  clear hK13
  refine W.region ?_
  refine ops_run 2 (by kernel_rfl) ?_
  refine ops_done (by kernel_rfl) ?_
  refine loopAt_next ?_
  refine loopAt_round ?_
  refine W.seq fun K24 hK24 => ?_
  refine W.region ?_
  refine ops_run 1 (by kernel_rfl) ?_
  refine ops_done (by kernel_rfl) ?_
  refine hK24 _ _ ?_
  clear hK24
  refine W.seq fun K25 hK25 => ?_
  refine W.cond_true true (by kernel_rfl) rfl ?_
  refine W.skip ?_
  refine hK25 _ _ ?_
  clear hK25
  refine W.seq fun K26 hK26 => ?_
  refine W.block ?_
  refine W.seq fun K27 hK27 => ?_
  refine W.region ?_
  refine ops_run 1 (by kernel_rfl) ?_
  refine ops_new (fun b => .pointer (some ⟨b, 0, none⟩)) (.cells [(.int .u8 0), (.int .i64 0), (.int .i64 0)].toArray 196 (0, 0)) hs20 (by kernel_rfl) (fun b30 w28 hs29 => ?_)
  refine ops_store (off := 0) (cs := [(.int .u8 0), (.int .i64 0), (.int .i64 0)]) (vs := [(.int .u8 2), (.int .i64 64), (.int .i64 4)]) hs29 (by kernel_rfl) (by simp) rfl (fun w31 hs32 => ?_)
  have hs33 : St B w [] w31 [blk b30 (.cells [(.int .u8 2), (.int .i64 64), (.int .i64 4)].toArray 196 (0, 0)), blk b17 (.cells [(.int .u8 1), (.int .i64 8), (.int .i64 1)].toArray 196 (0, 0)), blk b4 (.cells [(.int .i64 gw), (.int .i64 gi), (.int .i64 gb)].toArray 63 (0, 0))] := hs32
  refine ops_done (by kernel_rfl) ?_
  refine hK27 _ _ ?_
  clear hK27
  refine W.seq fun K34 hK34 => ?_
  refine W.seq fun K35 hK35 => ?_
  refine W.region ?_
  refine ops_run 1 (by kernel_rfl) ?_
  refine ops_R (runs_load (ad := ⟨b30, 0, none⟩) (v := (.int .u8 2)) (by kernel_rfl) (hs33.cellAt 0 rfl rfl)) ?_
  refine ops_run 2 (by kernel_rfl) ?_
  refine ops_done (by kernel_rfl) ?_
  refine hK35 _ _ ?_
  clear hK35
  refine W.cond_false false (by kernel_rfl) rfl ?_
  refine W.skip ?_
  refine hK34 _ _ ?_
  clear hK34
  refine W.seq fun K36 hK36 => ?_
  refine W.seq fun K37 hK37 => ?_
  refine W.region ?_
  refine ops_R (runs_loadAgg (ad := ⟨b4, 0, none⟩) (cs := [(.int .i64 gw), (.int .i64 gi), (.int .i64 gb)]) (by kernel_rfl) (cells_sub (hs33.heapAt 2 rfl) rfl)) ?_
  refine ops_call0 hs33 (by kernel_rfl) (may_spec (gw := gw) (gi := gi) (gb := gb) B _) ?_
  rintro _ _ w38 ⟨rfl, rfl⟩ hs39
  have hs40 := St.ap0 hs39
  refine ops_run 1 (by kernel_rfl) ?_
  rcases Bool.eq_false_or_eq_true (decide (May gw gi gb)) with h41 | h41
  ·
    have h41p : May gw gi gb := of_decide_eq_true h41
    refine ops_set 28 (v := .bool true) (eq_bool_of (by kernel_rfl) h41) ?_
    refine ops_set 27 (v := .bool true) (eq_bool_of (by kernel_rfl) h41) ?_
    refine ops_run 2 (by kernel_rfl) ?_
    refine ops_R (runs_load (ad := ⟨b30, 2, none⟩) (v := (.int .i64 4)) (by kernel_rfl) (hs40.cellAt 0 rfl rfl)) ?_
    refine ops_run 1 (by kernel_rfl) ?_
    refine ops_call0 hs40 (by kernel_rfl) (within_spec (n_ := n_) (f_ := 0) (t_ := 3) B _) ?_
    rintro _ _ w42 ⟨rfl, rfl⟩ hs43
    have hs44 := St.ap0 hs43
    refine ops_run 1 (by kernel_rfl) ?_
    refine ops_done (by kernel_rfl) ?_
    refine hK37 _ _ ?_
    clear hK37
    refine W.cond (decide (0 ≤ n_ ∧ n_ ≤ 3)) (by kernel_rfl) (fun h45 => ?_) (fun h45 => ?_)
    ·
      have h45p : 0 ≤ n_ ∧ n_ ≤ 3 := of_decide_eq_true h45
      refine W.seq fun K46 hK46 => ?_
      refine W.region ?_
      refine ops_run 2 (by kernel_rfl) ?_
      refine ops_R (runs_load (ad := ⟨b30, 1, none⟩) (v := (.int .i64 64)) (by kernel_rfl) (hs44.cellAt 0 rfl rfl)) ?_
      refine ops_run 1 (by kernel_rfl) ?_
      refine ops_val (v := .int .i64 (IntKind.i64.wrap (64 * n_))) (v' := .int .i64 (IntKind.i64.wrap (64 * n_))) (by kernel_rfl) rfl ?_
      refine ops_val (v := .int .i64 (IntKind.i64.wrap (8 + (IntKind.i64.wrap (64 * n_))))) (v' := .int .i64 (IntKind.i64.wrap (8 + (IntKind.i64.wrap (64 * n_))))) (by kernel_rfl) rfl ?_
      refine ops_run 1 (by kernel_rfl) ?_
      refine ops_done (by kernel_rfl) ?_
      refine hK46 _ _ ?_
      clear hK46
      refine W.ret (ret_seq (ret_block (ret_seq (ret_seq (ret_block (ret_seq ?_))))))
      have hs47 := St.tk0 hs44
      refine ret_of (.int .i64 (IntKind.i64.wrap (8 + (IntKind.i64.wrap (64 * n_))))) (by kernel_rfl) ⟨_, ⟨congrArg (Value.int .i64) (by first | contradiction | (simp only [placeOf, if_pos hm]; split <;> omega) | (simp only [placeOf, if_neg hm]; done) | (simp only [placeOf, if_pos hm]; omega)), rfl⟩, hs47⟩
    ·
      have h45p : ¬ (0 ≤ n_ ∧ n_ ≤ 3) := of_decide_eq_false h45
      refine W.skip ?_
      refine hK36 _ _ ?_
      clear hK36
      refine W.exit (exit_block (by decide) (exit_seq (exit_seq (exit_here ?_))))
      refine hK6 _ _ ?_
      clear hK6
      refine W.seq fun K48 hK48 => ?_
      refine W.region ?_
      refine ops_run 1 (by kernel_rfl) ?_
      refine ops_done (by kernel_rfl) ?_
      refine hK48 _ _ ?_
      clear hK48
      refine W.ret ?_
      have hs49 := St.tk0 hs44
      refine ret_of (.int .i64 (-1)) (by kernel_rfl) ⟨_, ⟨congrArg (Value.int .i64) (by first | contradiction | (simp only [placeOf, if_pos hm]; split <;> omega) | (simp only [placeOf, if_neg hm]; done) | (simp only [placeOf, if_pos hm]; omega)), rfl⟩, hs49⟩
  ·
    have h41p : ¬ (May gw gi gb) := of_decide_eq_false h41
    refine ops_set 28 (v := .bool false) (eq_bool_of (by kernel_rfl) h41) ?_
    refine ops_set 27 (v := .bool false) (eq_bool_of (by kernel_rfl) h41) ?_
    refine ops_run 6 (by kernel_rfl) ?_
    refine ops_done (by kernel_rfl) ?_
    refine hK37 _ _ ?_
    clear hK37
    refine W.cond_false false (by kernel_rfl) rfl ?_
    refine W.skip ?_
    refine hK36 _ _ ?_
    clear hK36
    refine W.exit (exit_block (by decide) (exit_seq (exit_seq (exit_here ?_))))
    refine hK6 _ _ ?_
    clear hK6
    refine W.seq fun K50 hK50 => ?_
    refine W.region ?_
    refine ops_run 1 (by kernel_rfl) ?_
    refine ops_done (by kernel_rfl) ?_
    refine hK50 _ _ ?_
    clear hK50
    refine W.ret ?_
    have hs51 := St.tk0 hs40
    refine ret_of (.int .i64 (-1)) (by kernel_rfl) ⟨_, ⟨congrArg (Value.int .i64) (by first | contradiction | (simp only [placeOf, if_pos hm]; split <;> omega) | (simp only [placeOf, if_neg hm]; done) | (simp only [placeOf, if_pos hm]; omega)), rfl⟩, hs51⟩

theorem place2_spec {gw gi gb n_ : Int} (B : Nat) (w : World) : Spec Tryd.prog 134 #[(.agg #[(.int .i64 gw), (.int .i64 gi), (.int .i64 gb)]), (.int .u8 2), (.int .i64 n_)] B w [] (fun v H' => v = .int .i64 (placeOf 2 gw gi gb n_) ∧ H' = []) := by
  by_cases hm : May gw gi gb
  · exact place2_may B w hm
  · exact place2_not B w hm

set_option maxRecDepth 20000 in
theorem place6_may {gw gi gb n_ : Int} (B : Nat) (w : World) (hm : May gw gi gb) : Spec Tryd.prog 134 #[(.agg #[(.int .i64 gw), (.int .i64 gi), (.int .i64 gb)]), (.int .u8 6), (.int .i64 n_)] B w [] (fun v H' => v = .int .i64 (placeOf 6 gw gi gb n_) ∧ H' = []) := by
  refine spec_Q Tryd.func134 rfl fun hs => ?_
  have hm_ : (1 ≤ gw ∧ gw ≤ 4) ∧ (2 ≤ gi ∧ gi ≤ 64) ∧ (2 ≤ gb ∧ gb ≤ 512) := hm
  refine W.seq fun K1 hK1 => ?_
  refine W.region ?_
  refine ops_new (fun b => .pointer (some ⟨b, 0, none⟩)) (.cells [(.int .i64 gw), (.int .i64 gi), (.int .i64 gb)].toArray 63 (0, 0)) hs (by kernel_rfl) (fun b4 w2 hs3 => ?_)
  refine ops_run 1 (by kernel_rfl) ?_
  refine ops_done (by kernel_rfl) ?_
  refine hK1 _ _ ?_
  clear hK1
  refine W.seq fun K5 hK5 => ?_
  refine W.region ?_
  refine ops_run 1 (by kernel_rfl) ?_
  refine ops_done (by kernel_rfl) ?_
  refine hK5 _ _ ?_
  clear hK5
  refine W.seq fun K6 hK6 => ?_
  refine W.seq fun K7 hK7 => ?_
  refine W.region ?_
  refine ops_R (runs_loadAgg (ad := ⟨b4, 0, none⟩) (cs := [(.int .i64 gw), (.int .i64 gi), (.int .i64 gb)]) (by kernel_rfl) (cells_sub (hs3.heapAt 0 rfl) rfl)) ?_
  refine ops_call0 hs3 (by kernel_rfl) (rows_spec (gw := gw) (gi := gi) (gb := gb) B _) ?_
  rintro _ _ w8 ⟨rfl, rfl⟩ hs9
  have hs10 := St.ap0 hs9
  refine ops_run 1 (by kernel_rfl) ?_
  refine ops_done (by kernel_rfl) ?_
  refine hK7 _ _ ?_
  clear hK7
  refine W.block ?_
  refine W.loop_start ?_
  refine loopAt_round ?_
  refine W.seq fun K11 hK11 => ?_
  refine W.region ?_
  refine ops_run 1 (by kernel_rfl) ?_
  refine ops_done (by kernel_rfl) ?_
  refine hK11 _ _ ?_
  clear hK11
  refine W.seq fun K12 hK12 => ?_
  refine W.cond_true true (by kernel_rfl) rfl ?_
  refine W.skip ?_
  refine hK12 _ _ ?_
  clear hK12
  refine W.seq fun K13 hK13 => ?_
  refine W.block ?_
  refine W.seq fun K14 hK14 => ?_
  refine W.region ?_
  refine ops_run 1 (by kernel_rfl) ?_
  refine ops_new (fun b => .pointer (some ⟨b, 0, none⟩)) (.cells [(.int .u8 0), (.int .i64 0), (.int .i64 0)].toArray 196 (0, 0)) hs10 (by kernel_rfl) (fun b17 w15 hs16 => ?_)
  refine ops_store (off := 0) (cs := [(.int .u8 0), (.int .i64 0), (.int .i64 0)]) (vs := [(.int .u8 1), (.int .i64 8), (.int .i64 1)]) hs16 (by kernel_rfl) (by simp) rfl (fun w18 hs19 => ?_)
  have hs20 : St B w [] w18 [blk b17 (.cells [(.int .u8 1), (.int .i64 8), (.int .i64 1)].toArray 196 (0, 0)), blk b4 (.cells [(.int .i64 gw), (.int .i64 gi), (.int .i64 gb)].toArray 63 (0, 0))] := hs19
  refine ops_done (by kernel_rfl) ?_
  refine hK14 _ _ ?_
  clear hK14
  refine W.seq fun K21 hK21 => ?_
  refine W.seq fun K22 hK22 => ?_
  refine W.region ?_
  refine ops_run 1 (by kernel_rfl) ?_
  refine ops_R (runs_load (ad := ⟨b17, 0, none⟩) (v := (.int .u8 1)) (by kernel_rfl) (hs20.cellAt 0 rfl rfl)) ?_
  refine ops_run 2 (by kernel_rfl) ?_
  refine ops_done (by kernel_rfl) ?_
  refine hK22 _ _ ?_
  clear hK22
  refine W.cond_true true (by kernel_rfl) rfl ?_
  refine W.seq fun K23 hK23 => ?_
  refine W.region ?_
  refine ops_run 2 (by kernel_rfl) ?_
  refine ops_R (runs_load (ad := ⟨b17, 1, none⟩) (v := (.int .i64 8)) (by kernel_rfl) (hs20.cellAt 0 rfl rfl)) ?_
  refine ops_run 1 (by kernel_rfl) ?_
  refine ops_R (runs_load (ad := ⟨b17, 2, none⟩) (v := (.int .i64 1)) (by kernel_rfl) (hs20.cellAt 0 rfl rfl)) ?_
  refine ops_run 3 (by kernel_rfl) ?_
  refine ops_done (by kernel_rfl) ?_
  refine hK23 _ _ ?_
  clear hK23
  refine W.exit (exit_seq (exit_here ?_))
  refine hK13 _ _ ?_
  clear hK13
  refine W.region ?_
  refine ops_run 2 (by kernel_rfl) ?_
  refine ops_done (by kernel_rfl) ?_
  refine loopAt_next ?_
  refine loopAt_round ?_
  refine W.seq fun K24 hK24 => ?_
  refine W.region ?_
  refine ops_run 1 (by kernel_rfl) ?_
  refine ops_done (by kernel_rfl) ?_
  refine hK24 _ _ ?_
  clear hK24
  refine W.seq fun K25 hK25 => ?_
  refine W.cond_true true (by kernel_rfl) rfl ?_
  refine W.skip ?_
  refine hK25 _ _ ?_
  clear hK25
  refine W.seq fun K26 hK26 => ?_
  refine W.block ?_
  refine W.seq fun K27 hK27 => ?_
  refine W.region ?_
  refine ops_run 1 (by kernel_rfl) ?_
  refine ops_new (fun b => .pointer (some ⟨b, 0, none⟩)) (.cells [(.int .u8 0), (.int .i64 0), (.int .i64 0)].toArray 196 (0, 0)) hs20 (by kernel_rfl) (fun b30 w28 hs29 => ?_)
  refine ops_store (off := 0) (cs := [(.int .u8 0), (.int .i64 0), (.int .i64 0)]) (vs := [(.int .u8 2), (.int .i64 64), (.int .i64 4)]) hs29 (by kernel_rfl) (by simp) rfl (fun w31 hs32 => ?_)
  have hs33 : St B w [] w31 [blk b30 (.cells [(.int .u8 2), (.int .i64 64), (.int .i64 4)].toArray 196 (0, 0)), blk b17 (.cells [(.int .u8 1), (.int .i64 8), (.int .i64 1)].toArray 196 (0, 0)), blk b4 (.cells [(.int .i64 gw), (.int .i64 gi), (.int .i64 gb)].toArray 63 (0, 0))] := hs32
  refine ops_done (by kernel_rfl) ?_
  refine hK27 _ _ ?_
  clear hK27
  refine W.seq fun K34 hK34 => ?_
  refine W.seq fun K35 hK35 => ?_
  refine W.region ?_
  refine ops_run 1 (by kernel_rfl) ?_
  refine ops_R (runs_load (ad := ⟨b30, 0, none⟩) (v := (.int .u8 2)) (by kernel_rfl) (hs33.cellAt 0 rfl rfl)) ?_
  refine ops_run 2 (by kernel_rfl) ?_
  refine ops_done (by kernel_rfl) ?_
  refine hK35 _ _ ?_
  clear hK35
  refine W.cond_true true (by kernel_rfl) rfl ?_
  refine W.seq fun K36 hK36 => ?_
  refine W.region ?_
  refine ops_run 2 (by kernel_rfl) ?_
  refine ops_R (runs_load (ad := ⟨b30, 1, none⟩) (v := (.int .i64 64)) (by kernel_rfl) (hs33.cellAt 0 rfl rfl)) ?_
  refine ops_run 1 (by kernel_rfl) ?_
  refine ops_R (runs_load (ad := ⟨b30, 2, none⟩) (v := (.int .i64 4)) (by kernel_rfl) (hs33.cellAt 0 rfl rfl)) ?_
  refine ops_run 3 (by kernel_rfl) ?_
  refine ops_done (by kernel_rfl) ?_
  refine hK36 _ _ ?_
  clear hK36
  refine W.exit (exit_seq (exit_here ?_))
  refine hK26 _ _ ?_
  clear hK26
  refine W.region ?_
  refine ops_run 2 (by kernel_rfl) ?_
  refine ops_done (by kernel_rfl) ?_
  refine loopAt_next ?_
  refine loopAt_round ?_
  refine W.seq fun K37 hK37 => ?_
  refine W.region ?_
  refine ops_run 1 (by kernel_rfl) ?_
  refine ops_done (by kernel_rfl) ?_
  refine hK37 _ _ ?_
  clear hK37
  refine W.seq fun K38 hK38 => ?_
  refine W.cond_true true (by kernel_rfl) rfl ?_
  refine W.skip ?_
  refine hK38 _ _ ?_
  clear hK38
  refine W.seq fun K39 hK39 => ?_
  refine W.block ?_
  refine W.seq fun K40 hK40 => ?_
  refine W.region ?_
  refine ops_run 1 (by kernel_rfl) ?_
  refine ops_new (fun b => .pointer (some ⟨b, 0, none⟩)) (.cells [(.int .u8 0), (.int .i64 0), (.int .i64 0)].toArray 196 (0, 0)) hs33 (by kernel_rfl) (fun b43 w41 hs42 => ?_)
  refine ops_store (off := 0) (cs := [(.int .u8 0), (.int .i64 0), (.int .i64 0)]) (vs := [(.int .u8 5), (.int .i64 208), (.int .i64 gw)]) hs42 (by kernel_rfl) (by simp) rfl (fun w44 hs45 => ?_)
  have hs46 : St B w [] w44 [blk b43 (.cells [(.int .u8 5), (.int .i64 208), (.int .i64 gw)].toArray 196 (0, 0)), blk b30 (.cells [(.int .u8 2), (.int .i64 64), (.int .i64 4)].toArray 196 (0, 0)), blk b17 (.cells [(.int .u8 1), (.int .i64 8), (.int .i64 1)].toArray 196 (0, 0)), blk b4 (.cells [(.int .i64 gw), (.int .i64 gi), (.int .i64 gb)].toArray 63 (0, 0))] := hs45
  refine ops_done (by kernel_rfl) ?_
  refine hK40 _ _ ?_
  clear hK40
  refine W.seq fun K47 hK47 => ?_
  refine W.seq fun K48 hK48 => ?_
  refine W.region ?_
  refine ops_run 1 (by kernel_rfl) ?_
  refine ops_R (runs_load (ad := ⟨b43, 0, none⟩) (v := (.int .u8 5)) (by kernel_rfl) (hs46.cellAt 0 rfl rfl)) ?_
  refine ops_run 2 (by kernel_rfl) ?_
  refine ops_done (by kernel_rfl) ?_
  refine hK48 _ _ ?_
  clear hK48
  refine W.cond_true true (by kernel_rfl) rfl ?_
  refine W.seq fun K49 hK49 => ?_
  refine W.region ?_
  refine ops_run 2 (by kernel_rfl) ?_
  refine ops_R (runs_load (ad := ⟨b43, 1, none⟩) (v := (.int .i64 208)) (by kernel_rfl) (hs46.cellAt 0 rfl rfl)) ?_
  refine ops_run 1 (by kernel_rfl) ?_
  refine ops_R (runs_load (ad := ⟨b43, 2, none⟩) (v := (.int .i64 gw)) (by kernel_rfl) (hs46.cellAt 0 rfl rfl)) ?_
  refine ops_val (v := .int .i64 (IntKind.i64.wrap (208 * gw))) (v' := .int .i64 (208 * gw)) (by kernel_rfl) (congrArg (Value.int .i64) (wrap_i64 (by omega) (by omega))) ?_
  refine ops_val (v := .int .i64 (IntKind.i64.wrap (264 + (208 * gw)))) (v' := .int .i64 (264 + (208 * gw))) (by kernel_rfl) (congrArg (Value.int .i64) (wrap_i64 (by omega) (by omega))) ?_
  refine ops_run 1 (by kernel_rfl) ?_
  refine ops_done (by kernel_rfl) ?_
  refine hK49 _ _ ?_
  clear hK49
  refine W.exit (exit_seq (exit_here ?_))
  refine hK39 _ _ ?_
  clear hK39
  refine W.region ?_
  refine ops_run 2 (by kernel_rfl) ?_
  refine ops_done (by kernel_rfl) ?_
  refine loopAt_next ?_
  refine loopAt_round ?_
  refine W.seq fun K50 hK50 => ?_
  refine W.region ?_
  refine ops_run 1 (by kernel_rfl) ?_
  refine ops_done (by kernel_rfl) ?_
  refine hK50 _ _ ?_
  clear hK50
  refine W.seq fun K51 hK51 => ?_
  refine W.cond_true true (by kernel_rfl) rfl ?_
  refine W.skip ?_
  refine hK51 _ _ ?_
  clear hK51
  refine W.seq fun K52 hK52 => ?_
  refine W.block ?_
  refine W.seq fun K53 hK53 => ?_
  refine W.region ?_
  refine ops_run 1 (by kernel_rfl) ?_
  refine ops_new (fun b => .pointer (some ⟨b, 0, none⟩)) (.cells [(.int .u8 0), (.int .i64 0), (.int .i64 0)].toArray 196 (0, 0)) hs46 (by kernel_rfl) (fun b56 w54 hs55 => ?_)
  refine ops_store (off := 0) (cs := [(.int .u8 0), (.int .i64 0), (.int .i64 0)]) (vs := [(.int .u8 6), (.int .i64 8), (.int .i64 1)]) hs55 (by kernel_rfl) (by simp) rfl (fun w57 hs58 => ?_)
  have hs59 : St B w [] w57 [blk b56 (.cells [(.int .u8 6), (.int .i64 8), (.int .i64 1)].toArray 196 (0, 0)), blk b43 (.cells [(.int .u8 5), (.int .i64 208), (.int .i64 gw)].toArray 196 (0, 0)), blk b30 (.cells [(.int .u8 2), (.int .i64 64), (.int .i64 4)].toArray 196 (0, 0)), blk b17 (.cells [(.int .u8 1), (.int .i64 8), (.int .i64 1)].toArray 196 (0, 0)), blk b4 (.cells [(.int .i64 gw), (.int .i64 gi), (.int .i64 gb)].toArray 63 (0, 0))] := hs58
  refine ops_done (by kernel_rfl) ?_
  refine hK53 _ _ ?_
  clear hK53
  refine W.seq fun K60 hK60 => ?_
  refine W.seq fun K61 hK61 => ?_
  refine W.region ?_
  refine ops_run 1 (by kernel_rfl) ?_
  refine ops_R (runs_load (ad := ⟨b56, 0, none⟩) (v := (.int .u8 6)) (by kernel_rfl) (hs59.cellAt 0 rfl rfl)) ?_
  refine ops_run 2 (by kernel_rfl) ?_
  refine ops_done (by kernel_rfl) ?_
  refine hK61 _ _ ?_
  clear hK61
  refine W.cond_false false (by kernel_rfl) rfl ?_
  refine W.skip ?_
  refine hK60 _ _ ?_
  clear hK60
  refine W.seq fun K62 hK62 => ?_
  refine W.seq fun K63 hK63 => ?_
  refine W.region ?_
  refine ops_R (runs_loadAgg (ad := ⟨b4, 0, none⟩) (cs := [(.int .i64 gw), (.int .i64 gi), (.int .i64 gb)]) (by kernel_rfl) (cells_sub (hs59.heapAt 4 rfl) rfl)) ?_
  refine ops_call0 hs59 (by kernel_rfl) (may_spec (gw := gw) (gi := gi) (gb := gb) B _) ?_
  rintro _ _ w64 ⟨rfl, rfl⟩ hs65
  have hs66 := St.ap0 hs65
  refine ops_run 1 (by kernel_rfl) ?_
  rcases Bool.eq_false_or_eq_true (decide (May gw gi gb)) with h67 | h67
  ·
    have h67p : May gw gi gb := of_decide_eq_true h67
    refine ops_set 28 (v := .bool true) (eq_bool_of (by kernel_rfl) h67) ?_
    refine ops_set 27 (v := .bool true) (eq_bool_of (by kernel_rfl) h67) ?_
    refine ops_run 2 (by kernel_rfl) ?_
    refine ops_R (runs_load (ad := ⟨b56, 2, none⟩) (v := (.int .i64 1)) (by kernel_rfl) (hs66.cellAt 0 rfl rfl)) ?_
    refine ops_run 1 (by kernel_rfl) ?_
    refine ops_call0 hs66 (by kernel_rfl) (within_spec (n_ := n_) (f_ := 0) (t_ := 0) B _) ?_
    rintro _ _ w68 ⟨rfl, rfl⟩ hs69
    have hs70 := St.ap0 hs69
    refine ops_run 1 (by kernel_rfl) ?_
    refine ops_done (by kernel_rfl) ?_
    refine hK63 _ _ ?_
    clear hK63
    refine W.cond (decide (0 ≤ n_ ∧ n_ ≤ 0)) (by kernel_rfl) (fun h71 => ?_) (fun h71 => ?_)
    ·
      have h71p : 0 ≤ n_ ∧ n_ ≤ 0 := of_decide_eq_true h71
      refine W.seq fun K72 hK72 => ?_
      refine W.region ?_
      refine ops_run 2 (by kernel_rfl) ?_
      refine ops_R (runs_load (ad := ⟨b56, 1, none⟩) (v := (.int .i64 8)) (by kernel_rfl) (hs70.cellAt 0 rfl rfl)) ?_
      refine ops_run 1 (by kernel_rfl) ?_
      refine ops_val (v := .int .i64 (IntKind.i64.wrap (8 * n_))) (v' := .int .i64 (8 * n_)) (by kernel_rfl) (congrArg (Value.int .i64) (wrap_i64 (by omega) (by omega))) ?_
      refine ops_val (v := .int .i64 (IntKind.i64.wrap ((264 + (208 * gw)) + (8 * n_)))) (v' := .int .i64 ((264 + (208 * gw)) + (8 * n_))) (by kernel_rfl) (congrArg (Value.int .i64) (wrap_i64 (by omega) (by omega))) ?_
      refine ops_run 1 (by kernel_rfl) ?_
      refine ops_done (by kernel_rfl) ?_
      refine hK72 _ _ ?_
      clear hK72
      refine W.ret (ret_seq (ret_block (ret_seq (ret_seq (ret_block (ret_seq ?_))))))
      have hs73 := St.tk0 hs70
      refine ret_of (.int .i64 ((264 + (208 * gw)) + (8 * n_))) (by kernel_rfl) ⟨_, ⟨congrArg (Value.int .i64) (by first | contradiction | (simp only [placeOf, if_pos hm]; split <;> omega) | (simp only [placeOf, if_neg hm]; done) | (simp only [placeOf, if_pos hm]; omega)), rfl⟩, hs73⟩
    ·
      have h71p : ¬ (0 ≤ n_ ∧ n_ ≤ 0) := of_decide_eq_false h71
      refine W.skip ?_
      refine hK62 _ _ ?_
      clear hK62
      refine W.exit (exit_block (by decide) (exit_seq (exit_seq (exit_here ?_))))
      refine hK6 _ _ ?_
      clear hK6
      refine W.seq fun K74 hK74 => ?_
      refine W.region ?_
      refine ops_run 1 (by kernel_rfl) ?_
      refine ops_done (by kernel_rfl) ?_
      refine hK74 _ _ ?_
      clear hK74
      refine W.ret ?_
      have hs75 := St.tk0 hs70
      refine ret_of (.int .i64 (-1)) (by kernel_rfl) ⟨_, ⟨congrArg (Value.int .i64) (by first | contradiction | (simp only [placeOf, if_pos hm]; split <;> omega) | (simp only [placeOf, if_neg hm]; done) | (simp only [placeOf, if_pos hm]; omega)), rfl⟩, hs75⟩
  ·
    have h67p : ¬ (May gw gi gb) := of_decide_eq_false h67
    refine ops_set 28 (v := .bool false) (eq_bool_of (by kernel_rfl) h67) ?_
    refine ops_set 27 (v := .bool false) (eq_bool_of (by kernel_rfl) h67) ?_
    refine ops_run 6 (by kernel_rfl) ?_
    refine ops_done (by kernel_rfl) ?_
    refine hK63 _ _ ?_
    clear hK63
    refine W.cond_false false (by kernel_rfl) rfl ?_
    refine W.skip ?_
    refine hK62 _ _ ?_
    clear hK62
    refine W.exit (exit_block (by decide) (exit_seq (exit_seq (exit_here ?_))))
    refine hK6 _ _ ?_
    clear hK6
    refine W.seq fun K76 hK76 => ?_
    refine W.region ?_
    refine ops_run 1 (by kernel_rfl) ?_
    refine ops_done (by kernel_rfl) ?_
    refine hK76 _ _ ?_
    clear hK76
    refine W.ret ?_
    have hs77 := St.tk0 hs66
    refine ret_of (.int .i64 (-1)) (by kernel_rfl) ⟨_, ⟨congrArg (Value.int .i64) (by first | contradiction | (simp only [placeOf, if_pos hm]; split <;> omega) | (simp only [placeOf, if_neg hm]; done) | (simp only [placeOf, if_pos hm]; omega)), rfl⟩, hs77⟩

set_option maxRecDepth 20000 in
theorem place6_not {gw gi gb n_ : Int} (B : Nat) (w : World) (hm : ¬ May gw gi gb) : Spec Tryd.prog 134 #[(.agg #[(.int .i64 gw), (.int .i64 gi), (.int .i64 gb)]), (.int .u8 6), (.int .i64 n_)] B w [] (fun v H' => v = .int .i64 (placeOf 6 gw gi gb n_) ∧ H' = []) := by
  refine spec_Q Tryd.func134 rfl fun hs => ?_
  refine W.seq fun K1 hK1 => ?_
  refine W.region ?_
  refine ops_new (fun b => .pointer (some ⟨b, 0, none⟩)) (.cells [(.int .i64 gw), (.int .i64 gi), (.int .i64 gb)].toArray 63 (0, 0)) hs (by kernel_rfl) (fun b4 w2 hs3 => ?_)
  refine ops_run 1 (by kernel_rfl) ?_
  refine ops_done (by kernel_rfl) ?_
  refine hK1 _ _ ?_
  clear hK1
  refine W.seq fun K5 hK5 => ?_
  refine W.region ?_
  refine ops_run 1 (by kernel_rfl) ?_
  refine ops_done (by kernel_rfl) ?_
  refine hK5 _ _ ?_
  clear hK5
  refine W.seq fun K6 hK6 => ?_
  refine W.seq fun K7 hK7 => ?_
  refine W.region ?_
  refine ops_R (runs_loadAgg (ad := ⟨b4, 0, none⟩) (cs := [(.int .i64 gw), (.int .i64 gi), (.int .i64 gb)]) (by kernel_rfl) (cells_sub (hs3.heapAt 0 rfl) rfl)) ?_
  refine ops_call0 hs3 (by kernel_rfl) (rows_spec (gw := gw) (gi := gi) (gb := gb) B _) ?_
  rintro _ _ w8 ⟨rfl, rfl⟩ hs9
  have hs10 := St.ap0 hs9
  refine ops_run 1 (by kernel_rfl) ?_
  refine ops_done (by kernel_rfl) ?_
  refine hK7 _ _ ?_
  clear hK7
  refine W.block ?_
  refine W.loop_start ?_
  refine loopAt_round ?_
  refine W.seq fun K11 hK11 => ?_
  refine W.region ?_
  refine ops_run 1 (by kernel_rfl) ?_
  refine ops_done (by kernel_rfl) ?_
  refine hK11 _ _ ?_
  clear hK11
  refine W.seq fun K12 hK12 => ?_
  refine W.cond_true true (by kernel_rfl) rfl ?_
  refine W.skip ?_
  refine hK12 _ _ ?_
  clear hK12
  refine W.seq fun K13 hK13 => ?_
  refine W.block ?_
  refine W.seq fun K14 hK14 => ?_
  refine W.region ?_
  refine ops_run 1 (by kernel_rfl) ?_
  refine ops_new (fun b => .pointer (some ⟨b, 0, none⟩)) (.cells [(.int .u8 0), (.int .i64 0), (.int .i64 0)].toArray 196 (0, 0)) hs10 (by kernel_rfl) (fun b17 w15 hs16 => ?_)
  refine ops_store (off := 0) (cs := [(.int .u8 0), (.int .i64 0), (.int .i64 0)]) (vs := [(.int .u8 1), (.int .i64 8), (.int .i64 1)]) hs16 (by kernel_rfl) (by simp) rfl (fun w18 hs19 => ?_)
  have hs20 : St B w [] w18 [blk b17 (.cells [(.int .u8 1), (.int .i64 8), (.int .i64 1)].toArray 196 (0, 0)), blk b4 (.cells [(.int .i64 gw), (.int .i64 gi), (.int .i64 gb)].toArray 63 (0, 0))] := hs19
  refine ops_done (by kernel_rfl) ?_
  refine hK14 _ _ ?_
  clear hK14
  refine W.seq fun K21 hK21 => ?_
  refine W.seq fun K22 hK22 => ?_
  refine W.region ?_
  refine ops_run 1 (by kernel_rfl) ?_
  refine ops_R (runs_load (ad := ⟨b17, 0, none⟩) (v := (.int .u8 1)) (by kernel_rfl) (hs20.cellAt 0 rfl rfl)) ?_
  refine ops_run 2 (by kernel_rfl) ?_
  refine ops_done (by kernel_rfl) ?_
  refine hK22 _ _ ?_
  clear hK22
  refine W.cond_true true (by kernel_rfl) rfl ?_
  refine W.seq fun K23 hK23 => ?_
  refine W.region ?_
  refine ops_run 2 (by kernel_rfl) ?_
  refine ops_R (runs_load (ad := ⟨b17, 1, none⟩) (v := (.int .i64 8)) (by kernel_rfl) (hs20.cellAt 0 rfl rfl)) ?_
  refine ops_run 1 (by kernel_rfl) ?_
  refine ops_R (runs_load (ad := ⟨b17, 2, none⟩) (v := (.int .i64 1)) (by kernel_rfl) (hs20.cellAt 0 rfl rfl)) ?_
  refine ops_run 3 (by kernel_rfl) ?_
  refine ops_done (by kernel_rfl) ?_
  refine hK23 _ _ ?_
  clear hK23
  refine W.exit (exit_seq (exit_here ?_))
  refine hK13 _ _ ?_
  clear hK13
  refine W.region ?_
  refine ops_run 2 (by kernel_rfl) ?_
  refine ops_done (by kernel_rfl) ?_
  refine loopAt_next ?_
  refine loopAt_round ?_
  refine W.seq fun K24 hK24 => ?_
  refine W.region ?_
  refine ops_run 1 (by kernel_rfl) ?_
  refine ops_done (by kernel_rfl) ?_
  refine hK24 _ _ ?_
  clear hK24
  refine W.seq fun K25 hK25 => ?_
  refine W.cond_true true (by kernel_rfl) rfl ?_
  refine W.skip ?_
  refine hK25 _ _ ?_
  clear hK25
  refine W.seq fun K26 hK26 => ?_
  refine W.block ?_
  refine W.seq fun K27 hK27 => ?_
  refine W.region ?_
  refine ops_run 1 (by kernel_rfl) ?_
  refine ops_new (fun b => .pointer (some ⟨b, 0, none⟩)) (.cells [(.int .u8 0), (.int .i64 0), (.int .i64 0)].toArray 196 (0, 0)) hs20 (by kernel_rfl) (fun b30 w28 hs29 => ?_)
  refine ops_store (off := 0) (cs := [(.int .u8 0), (.int .i64 0), (.int .i64 0)]) (vs := [(.int .u8 2), (.int .i64 64), (.int .i64 4)]) hs29 (by kernel_rfl) (by simp) rfl (fun w31 hs32 => ?_)
  have hs33 : St B w [] w31 [blk b30 (.cells [(.int .u8 2), (.int .i64 64), (.int .i64 4)].toArray 196 (0, 0)), blk b17 (.cells [(.int .u8 1), (.int .i64 8), (.int .i64 1)].toArray 196 (0, 0)), blk b4 (.cells [(.int .i64 gw), (.int .i64 gi), (.int .i64 gb)].toArray 63 (0, 0))] := hs32
  refine ops_done (by kernel_rfl) ?_
  refine hK27 _ _ ?_
  clear hK27
  refine W.seq fun K34 hK34 => ?_
  refine W.seq fun K35 hK35 => ?_
  refine W.region ?_
  refine ops_run 1 (by kernel_rfl) ?_
  refine ops_R (runs_load (ad := ⟨b30, 0, none⟩) (v := (.int .u8 2)) (by kernel_rfl) (hs33.cellAt 0 rfl rfl)) ?_
  refine ops_run 2 (by kernel_rfl) ?_
  refine ops_done (by kernel_rfl) ?_
  refine hK35 _ _ ?_
  clear hK35
  refine W.cond_true true (by kernel_rfl) rfl ?_
  refine W.seq fun K36 hK36 => ?_
  refine W.region ?_
  refine ops_run 2 (by kernel_rfl) ?_
  refine ops_R (runs_load (ad := ⟨b30, 1, none⟩) (v := (.int .i64 64)) (by kernel_rfl) (hs33.cellAt 0 rfl rfl)) ?_
  refine ops_run 1 (by kernel_rfl) ?_
  refine ops_R (runs_load (ad := ⟨b30, 2, none⟩) (v := (.int .i64 4)) (by kernel_rfl) (hs33.cellAt 0 rfl rfl)) ?_
  refine ops_run 3 (by kernel_rfl) ?_
  refine ops_done (by kernel_rfl) ?_
  refine hK36 _ _ ?_
  clear hK36
  refine W.exit (exit_seq (exit_here ?_))
  refine hK26 _ _ ?_
  clear hK26
  refine W.region ?_
  refine ops_run 2 (by kernel_rfl) ?_
  refine ops_done (by kernel_rfl) ?_
  refine loopAt_next ?_
  refine loopAt_round ?_
  refine W.seq fun K37 hK37 => ?_
  refine W.region ?_
  refine ops_run 1 (by kernel_rfl) ?_
  refine ops_done (by kernel_rfl) ?_
  refine hK37 _ _ ?_
  clear hK37
  refine W.seq fun K38 hK38 => ?_
  refine W.cond_true true (by kernel_rfl) rfl ?_
  refine W.skip ?_
  refine hK38 _ _ ?_
  clear hK38
  refine W.seq fun K39 hK39 => ?_
  refine W.block ?_
  refine W.seq fun K40 hK40 => ?_
  refine W.region ?_
  refine ops_run 1 (by kernel_rfl) ?_
  refine ops_new (fun b => .pointer (some ⟨b, 0, none⟩)) (.cells [(.int .u8 0), (.int .i64 0), (.int .i64 0)].toArray 196 (0, 0)) hs33 (by kernel_rfl) (fun b43 w41 hs42 => ?_)
  refine ops_store (off := 0) (cs := [(.int .u8 0), (.int .i64 0), (.int .i64 0)]) (vs := [(.int .u8 5), (.int .i64 208), (.int .i64 gw)]) hs42 (by kernel_rfl) (by simp) rfl (fun w44 hs45 => ?_)
  have hs46 : St B w [] w44 [blk b43 (.cells [(.int .u8 5), (.int .i64 208), (.int .i64 gw)].toArray 196 (0, 0)), blk b30 (.cells [(.int .u8 2), (.int .i64 64), (.int .i64 4)].toArray 196 (0, 0)), blk b17 (.cells [(.int .u8 1), (.int .i64 8), (.int .i64 1)].toArray 196 (0, 0)), blk b4 (.cells [(.int .i64 gw), (.int .i64 gi), (.int .i64 gb)].toArray 63 (0, 0))] := hs45
  refine ops_done (by kernel_rfl) ?_
  refine hK40 _ _ ?_
  clear hK40
  refine W.seq fun K47 hK47 => ?_
  refine W.seq fun K48 hK48 => ?_
  refine W.region ?_
  refine ops_run 1 (by kernel_rfl) ?_
  refine ops_R (runs_load (ad := ⟨b43, 0, none⟩) (v := (.int .u8 5)) (by kernel_rfl) (hs46.cellAt 0 rfl rfl)) ?_
  refine ops_run 2 (by kernel_rfl) ?_
  refine ops_done (by kernel_rfl) ?_
  refine hK48 _ _ ?_
  clear hK48
  refine W.cond_true true (by kernel_rfl) rfl ?_
  refine W.seq fun K49 hK49 => ?_
  refine W.region ?_
  refine ops_run 2 (by kernel_rfl) ?_
  refine ops_R (runs_load (ad := ⟨b43, 1, none⟩) (v := (.int .i64 208)) (by kernel_rfl) (hs46.cellAt 0 rfl rfl)) ?_
  refine ops_run 1 (by kernel_rfl) ?_
  refine ops_R (runs_load (ad := ⟨b43, 2, none⟩) (v := (.int .i64 gw)) (by kernel_rfl) (hs46.cellAt 0 rfl rfl)) ?_
  refine ops_val (v := .int .i64 (IntKind.i64.wrap (208 * gw))) (v' := .int .i64 (IntKind.i64.wrap (208 * gw))) (by kernel_rfl) rfl ?_
  refine ops_val (v := .int .i64 (IntKind.i64.wrap (264 + (IntKind.i64.wrap (208 * gw))))) (v' := .int .i64 (IntKind.i64.wrap (264 + (IntKind.i64.wrap (208 * gw))))) (by kernel_rfl) rfl ?_
  refine ops_run 1 (by kernel_rfl) ?_
  refine ops_done (by kernel_rfl) ?_
  refine hK49 _ _ ?_
  clear hK49
  refine W.exit (exit_seq (exit_here ?_))
  refine hK39 _ _ ?_
  clear hK39
  refine W.region ?_
  refine ops_run 2 (by kernel_rfl) ?_
  refine ops_done (by kernel_rfl) ?_
  refine loopAt_next ?_
  refine loopAt_round ?_
  refine W.seq fun K50 hK50 => ?_
  refine W.region ?_
  refine ops_run 1 (by kernel_rfl) ?_
  refine ops_done (by kernel_rfl) ?_
  refine hK50 _ _ ?_
  clear hK50
  refine W.seq fun K51 hK51 => ?_
  refine W.cond_true true (by kernel_rfl) rfl ?_
  refine W.skip ?_
  refine hK51 _ _ ?_
  clear hK51
  refine W.seq fun K52 hK52 => ?_
  refine W.block ?_
  refine W.seq fun K53 hK53 => ?_
  refine W.region ?_
  refine ops_run 1 (by kernel_rfl) ?_
  refine ops_new (fun b => .pointer (some ⟨b, 0, none⟩)) (.cells [(.int .u8 0), (.int .i64 0), (.int .i64 0)].toArray 196 (0, 0)) hs46 (by kernel_rfl) (fun b56 w54 hs55 => ?_)
  refine ops_store (off := 0) (cs := [(.int .u8 0), (.int .i64 0), (.int .i64 0)]) (vs := [(.int .u8 6), (.int .i64 8), (.int .i64 1)]) hs55 (by kernel_rfl) (by simp) rfl (fun w57 hs58 => ?_)
  have hs59 : St B w [] w57 [blk b56 (.cells [(.int .u8 6), (.int .i64 8), (.int .i64 1)].toArray 196 (0, 0)), blk b43 (.cells [(.int .u8 5), (.int .i64 208), (.int .i64 gw)].toArray 196 (0, 0)), blk b30 (.cells [(.int .u8 2), (.int .i64 64), (.int .i64 4)].toArray 196 (0, 0)), blk b17 (.cells [(.int .u8 1), (.int .i64 8), (.int .i64 1)].toArray 196 (0, 0)), blk b4 (.cells [(.int .i64 gw), (.int .i64 gi), (.int .i64 gb)].toArray 63 (0, 0))] := hs58
  refine ops_done (by kernel_rfl) ?_
  refine hK53 _ _ ?_
  clear hK53
  refine W.seq fun K60 hK60 => ?_
  refine W.seq fun K61 hK61 => ?_
  refine W.region ?_
  refine ops_run 1 (by kernel_rfl) ?_
  refine ops_R (runs_load (ad := ⟨b56, 0, none⟩) (v := (.int .u8 6)) (by kernel_rfl) (hs59.cellAt 0 rfl rfl)) ?_
  refine ops_run 2 (by kernel_rfl) ?_
  refine ops_done (by kernel_rfl) ?_
  refine hK61 _ _ ?_
  clear hK61
  refine W.cond_false false (by kernel_rfl) rfl ?_
  refine W.skip ?_
  refine hK60 _ _ ?_
  clear hK60
  refine W.seq fun K62 hK62 => ?_
  refine W.seq fun K63 hK63 => ?_
  refine W.region ?_
  refine ops_R (runs_loadAgg (ad := ⟨b4, 0, none⟩) (cs := [(.int .i64 gw), (.int .i64 gi), (.int .i64 gb)]) (by kernel_rfl) (cells_sub (hs59.heapAt 4 rfl) rfl)) ?_
  refine ops_call0 hs59 (by kernel_rfl) (may_spec (gw := gw) (gi := gi) (gb := gb) B _) ?_
  rintro _ _ w64 ⟨rfl, rfl⟩ hs65
  have hs66 := St.ap0 hs65
  refine ops_run 1 (by kernel_rfl) ?_
  rcases Bool.eq_false_or_eq_true (decide (May gw gi gb)) with h67 | h67
  ·
    have h67p : May gw gi gb := of_decide_eq_true h67
    refine ops_set 28 (v := .bool true) (eq_bool_of (by kernel_rfl) h67) ?_
    refine ops_set 27 (v := .bool true) (eq_bool_of (by kernel_rfl) h67) ?_
    refine ops_run 2 (by kernel_rfl) ?_
    refine ops_R (runs_load (ad := ⟨b56, 2, none⟩) (v := (.int .i64 1)) (by kernel_rfl) (hs66.cellAt 0 rfl rfl)) ?_
    refine ops_run 1 (by kernel_rfl) ?_
    refine ops_call0 hs66 (by kernel_rfl) (within_spec (n_ := n_) (f_ := 0) (t_ := 0) B _) ?_
    rintro _ _ w68 ⟨rfl, rfl⟩ hs69
    have hs70 := St.ap0 hs69
    refine ops_run 1 (by kernel_rfl) ?_
    refine ops_done (by kernel_rfl) ?_
    refine hK63 _ _ ?_
    clear hK63
    refine W.cond (decide (0 ≤ n_ ∧ n_ ≤ 0)) (by kernel_rfl) (fun h71 => ?_) (fun h71 => ?_)
    ·
      have h71p : 0 ≤ n_ ∧ n_ ≤ 0 := of_decide_eq_true h71
      refine W.seq fun K72 hK72 => ?_
      refine W.region ?_
      refine ops_run 2 (by kernel_rfl) ?_
      refine ops_R (runs_load (ad := ⟨b56, 1, none⟩) (v := (.int .i64 8)) (by kernel_rfl) (hs70.cellAt 0 rfl rfl)) ?_
      refine ops_run 1 (by kernel_rfl) ?_
      refine ops_val (v := .int .i64 (IntKind.i64.wrap (8 * n_))) (v' := .int .i64 (IntKind.i64.wrap (8 * n_))) (by kernel_rfl) rfl ?_
      refine ops_val (v := .int .i64 (IntKind.i64.wrap ((IntKind.i64.wrap (264 + (IntKind.i64.wrap (208 * gw)))) + (IntKind.i64.wrap (8 * n_))))) (v' := .int .i64 (IntKind.i64.wrap ((IntKind.i64.wrap (264 + (IntKind.i64.wrap (208 * gw)))) + (IntKind.i64.wrap (8 * n_))))) (by kernel_rfl) rfl ?_
      refine ops_run 1 (by kernel_rfl) ?_
      refine ops_done (by kernel_rfl) ?_
      refine hK72 _ _ ?_
      clear hK72
      refine W.ret (ret_seq (ret_block (ret_seq (ret_seq (ret_block (ret_seq ?_))))))
      have hs73 := St.tk0 hs70
      refine ret_of (.int .i64 (IntKind.i64.wrap ((IntKind.i64.wrap (264 + (IntKind.i64.wrap (208 * gw)))) + (IntKind.i64.wrap (8 * n_))))) (by kernel_rfl) ⟨_, ⟨congrArg (Value.int .i64) (by first | contradiction | (simp only [placeOf, if_pos hm]; split <;> omega) | (simp only [placeOf, if_neg hm]; done) | (simp only [placeOf, if_pos hm]; omega)), rfl⟩, hs73⟩
    ·
      have h71p : ¬ (0 ≤ n_ ∧ n_ ≤ 0) := of_decide_eq_false h71
      refine W.skip ?_
      refine hK62 _ _ ?_
      clear hK62
      refine W.exit (exit_block (by decide) (exit_seq (exit_seq (exit_here ?_))))
      refine hK6 _ _ ?_
      clear hK6
      refine W.seq fun K74 hK74 => ?_
      refine W.region ?_
      refine ops_run 1 (by kernel_rfl) ?_
      refine ops_done (by kernel_rfl) ?_
      refine hK74 _ _ ?_
      clear hK74
      refine W.ret ?_
      have hs75 := St.tk0 hs70
      refine ret_of (.int .i64 (-1)) (by kernel_rfl) ⟨_, ⟨congrArg (Value.int .i64) (by first | contradiction | (simp only [placeOf, if_pos hm]; split <;> omega) | (simp only [placeOf, if_neg hm]; done) | (simp only [placeOf, if_pos hm]; omega)), rfl⟩, hs75⟩
  ·
    have h67p : ¬ (May gw gi gb) := of_decide_eq_false h67
    refine ops_set 28 (v := .bool false) (eq_bool_of (by kernel_rfl) h67) ?_
    refine ops_set 27 (v := .bool false) (eq_bool_of (by kernel_rfl) h67) ?_
    refine ops_run 6 (by kernel_rfl) ?_
    refine ops_done (by kernel_rfl) ?_
    refine hK63 _ _ ?_
    clear hK63
    refine W.cond_false false (by kernel_rfl) rfl ?_
    refine W.skip ?_
    refine hK62 _ _ ?_
    clear hK62
    refine W.exit (exit_block (by decide) (exit_seq (exit_seq (exit_here ?_))))
    refine hK6 _ _ ?_
    clear hK6
    refine W.seq fun K76 hK76 => ?_
    refine W.region ?_
    refine ops_run 1 (by kernel_rfl) ?_
    refine ops_done (by kernel_rfl) ?_
    refine hK76 _ _ ?_
    clear hK76
    refine W.ret ?_
    have hs77 := St.tk0 hs66
    refine ret_of (.int .i64 (-1)) (by kernel_rfl) ⟨_, ⟨congrArg (Value.int .i64) (by first | contradiction | (simp only [placeOf, if_pos hm]; split <;> omega) | (simp only [placeOf, if_neg hm]; done) | (simp only [placeOf, if_pos hm]; omega)), rfl⟩, hs77⟩

theorem place6_spec {gw gi gb n_ : Int} (B : Nat) (w : World) : Spec Tryd.prog 134 #[(.agg #[(.int .i64 gw), (.int .i64 gi), (.int .i64 gb)]), (.int .u8 6), (.int .i64 n_)] B w [] (fun v H' => v = .int .i64 (placeOf 6 gw gi gb n_) ∧ H' = []) := by
  by_cases hm : May gw gi gb
  · exact place6_may B w hm
  · exact place6_not B w hm

set_option maxRecDepth 20000 in
theorem place7_may {gw gi gb n_ : Int} (B : Nat) (w : World) (hm : May gw gi gb) : Spec Tryd.prog 134 #[(.agg #[(.int .i64 gw), (.int .i64 gi), (.int .i64 gb)]), (.int .u8 7), (.int .i64 n_)] B w [] (fun v H' => v = .int .i64 (placeOf 7 gw gi gb n_) ∧ H' = []) := by
  refine spec_Q Tryd.func134 rfl fun hs => ?_
  have hm_ : (1 ≤ gw ∧ gw ≤ 4) ∧ (2 ≤ gi ∧ gi ≤ 64) ∧ (2 ≤ gb ∧ gb ≤ 512) := hm
  refine W.seq fun K1 hK1 => ?_
  refine W.region ?_
  refine ops_new (fun b => .pointer (some ⟨b, 0, none⟩)) (.cells [(.int .i64 gw), (.int .i64 gi), (.int .i64 gb)].toArray 63 (0, 0)) hs (by kernel_rfl) (fun b4 w2 hs3 => ?_)
  refine ops_run 1 (by kernel_rfl) ?_
  refine ops_done (by kernel_rfl) ?_
  refine hK1 _ _ ?_
  clear hK1
  refine W.seq fun K5 hK5 => ?_
  refine W.region ?_
  refine ops_run 1 (by kernel_rfl) ?_
  refine ops_done (by kernel_rfl) ?_
  refine hK5 _ _ ?_
  clear hK5
  refine W.seq fun K6 hK6 => ?_
  refine W.seq fun K7 hK7 => ?_
  refine W.region ?_
  refine ops_R (runs_loadAgg (ad := ⟨b4, 0, none⟩) (cs := [(.int .i64 gw), (.int .i64 gi), (.int .i64 gb)]) (by kernel_rfl) (cells_sub (hs3.heapAt 0 rfl) rfl)) ?_
  refine ops_call0 hs3 (by kernel_rfl) (rows_spec (gw := gw) (gi := gi) (gb := gb) B _) ?_
  rintro _ _ w8 ⟨rfl, rfl⟩ hs9
  have hs10 := St.ap0 hs9
  refine ops_run 1 (by kernel_rfl) ?_
  refine ops_done (by kernel_rfl) ?_
  refine hK7 _ _ ?_
  clear hK7
  refine W.block ?_
  refine W.loop_start ?_
  refine loopAt_round ?_
  refine W.seq fun K11 hK11 => ?_
  refine W.region ?_
  refine ops_run 1 (by kernel_rfl) ?_
  refine ops_done (by kernel_rfl) ?_
  refine hK11 _ _ ?_
  clear hK11
  refine W.seq fun K12 hK12 => ?_
  refine W.cond_true true (by kernel_rfl) rfl ?_
  refine W.skip ?_
  refine hK12 _ _ ?_
  clear hK12
  refine W.seq fun K13 hK13 => ?_
  refine W.block ?_
  refine W.seq fun K14 hK14 => ?_
  refine W.region ?_
  refine ops_run 1 (by kernel_rfl) ?_
  refine ops_new (fun b => .pointer (some ⟨b, 0, none⟩)) (.cells [(.int .u8 0), (.int .i64 0), (.int .i64 0)].toArray 196 (0, 0)) hs10 (by kernel_rfl) (fun b17 w15 hs16 => ?_)
  refine ops_store (off := 0) (cs := [(.int .u8 0), (.int .i64 0), (.int .i64 0)]) (vs := [(.int .u8 1), (.int .i64 8), (.int .i64 1)]) hs16 (by kernel_rfl) (by simp) rfl (fun w18 hs19 => ?_)
  have hs20 : St B w [] w18 [blk b17 (.cells [(.int .u8 1), (.int .i64 8), (.int .i64 1)].toArray 196 (0, 0)), blk b4 (.cells [(.int .i64 gw), (.int .i64 gi), (.int .i64 gb)].toArray 63 (0, 0))] := hs19
  refine ops_done (by kernel_rfl) ?_
  refine hK14 _ _ ?_
  clear hK14
  refine W.seq fun K21 hK21 => ?_
  refine W.seq fun K22 hK22 => ?_
  refine W.region ?_
  refine ops_run 1 (by kernel_rfl) ?_
  refine ops_R (runs_load (ad := ⟨b17, 0, none⟩) (v := (.int .u8 1)) (by kernel_rfl) (hs20.cellAt 0 rfl rfl)) ?_
  refine ops_run 2 (by kernel_rfl) ?_
  refine ops_done (by kernel_rfl) ?_
  refine hK22 _ _ ?_
  clear hK22
  refine W.cond_true true (by kernel_rfl) rfl ?_
  refine W.seq fun K23 hK23 => ?_
  refine W.region ?_
  refine ops_run 2 (by kernel_rfl) ?_
  refine ops_R (runs_load (ad := ⟨b17, 1, none⟩) (v := (.int .i64 8)) (by kernel_rfl) (hs20.cellAt 0 rfl rfl)) ?_
  refine ops_run 1 (by kernel_rfl) ?_
  refine ops_R (runs_load (ad := ⟨b17, 2, none⟩) (v := (.int .i64 1)) (by kernel_rfl) (hs20.cellAt 0 rfl rfl)) ?_
  refine ops_run 3 (by kernel_rfl) ?_
  refine ops_done (by kernel_rfl) ?_
  refine hK23 _ _ ?_
  clear hK23
  refine W.exit (exit_seq (exit_here ?_))
  refine hK13 _ _ ?_
  clear hK13
  refine W.region ?_
  refine ops_run 2 (by kernel_rfl) ?_
  refine ops_done (by kernel_rfl) ?_
  refine loopAt_next ?_
  refine loopAt_round ?_
  refine W.seq fun K24 hK24 => ?_
  refine W.region ?_
  refine ops_run 1 (by kernel_rfl) ?_
  refine ops_done (by kernel_rfl) ?_
  refine hK24 _ _ ?_
  clear hK24
  refine W.seq fun K25 hK25 => ?_
  refine W.cond_true true (by kernel_rfl) rfl ?_
  refine W.skip ?_
  refine hK25 _ _ ?_
  clear hK25
  refine W.seq fun K26 hK26 => ?_
  refine W.block ?_
  refine W.seq fun K27 hK27 => ?_
  refine W.region ?_
  refine ops_run 1 (by kernel_rfl) ?_
  refine ops_new (fun b => .pointer (some ⟨b, 0, none⟩)) (.cells [(.int .u8 0), (.int .i64 0), (.int .i64 0)].toArray 196 (0, 0)) hs20 (by kernel_rfl) (fun b30 w28 hs29 => ?_)
  refine ops_store (off := 0) (cs := [(.int .u8 0), (.int .i64 0), (.int .i64 0)]) (vs := [(.int .u8 2), (.int .i64 64), (.int .i64 4)]) hs29 (by kernel_rfl) (by simp) rfl (fun w31 hs32 => ?_)
  have hs33 : St B w [] w31 [blk b30 (.cells [(.int .u8 2), (.int .i64 64), (.int .i64 4)].toArray 196 (0, 0)), blk b17 (.cells [(.int .u8 1), (.int .i64 8), (.int .i64 1)].toArray 196 (0, 0)), blk b4 (.cells [(.int .i64 gw), (.int .i64 gi), (.int .i64 gb)].toArray 63 (0, 0))] := hs32
  refine ops_done (by kernel_rfl) ?_
  refine hK27 _ _ ?_
  clear hK27
  refine W.seq fun K34 hK34 => ?_
  refine W.seq fun K35 hK35 => ?_
  refine W.region ?_
  refine ops_run 1 (by kernel_rfl) ?_
  refine ops_R (runs_load (ad := ⟨b30, 0, none⟩) (v := (.int .u8 2)) (by kernel_rfl) (hs33.cellAt 0 rfl rfl)) ?_
  refine ops_run 2 (by kernel_rfl) ?_
  refine ops_done (by kernel_rfl) ?_
  refine hK35 _ _ ?_
  clear hK35
  refine W.cond_true true (by kernel_rfl) rfl ?_
  refine W.seq fun K36 hK36 => ?_
  refine W.region ?_
  refine ops_run 2 (by kernel_rfl) ?_
  refine ops_R (runs_load (ad := ⟨b30, 1, none⟩) (v := (.int .i64 64)) (by kernel_rfl) (hs33.cellAt 0 rfl rfl)) ?_
  refine ops_run 1 (by kernel_rfl) ?_
  refine ops_R (runs_load (ad := ⟨b30, 2, none⟩) (v := (.int .i64 4)) (by kernel_rfl) (hs33.cellAt 0 rfl rfl)) ?_
  refine ops_run 3 (by kernel_rfl) ?_
  refine ops_done (by kernel_rfl) ?_
  refine hK36 _ _ ?_
  clear hK36
  refine W.exit (exit_seq (exit_here ?_))
  refine hK26 _ _ ?_
  clear hK26
  refine W.region ?_
  refine ops_run 2 (by kernel_rfl) ?_
  refine ops_done (by kernel_rfl) ?_
  refine loopAt_next ?_
  refine loopAt_round ?_
  refine W.seq fun K37 hK37 => ?_
  refine W.region ?_
  refine ops_run 1 (by kernel_rfl) ?_
  refine ops_done (by kernel_rfl) ?_
  refine hK37 _ _ ?_
  clear hK37
  refine W.seq fun K38 hK38 => ?_
  refine W.cond_true true (by kernel_rfl) rfl ?_
  refine W.skip ?_
  refine hK38 _ _ ?_
  clear hK38
  refine W.seq fun K39 hK39 => ?_
  refine W.block ?_
  refine W.seq fun K40 hK40 => ?_
  refine W.region ?_
  refine ops_run 1 (by kernel_rfl) ?_
  refine ops_new (fun b => .pointer (some ⟨b, 0, none⟩)) (.cells [(.int .u8 0), (.int .i64 0), (.int .i64 0)].toArray 196 (0, 0)) hs33 (by kernel_rfl) (fun b43 w41 hs42 => ?_)
  refine ops_store (off := 0) (cs := [(.int .u8 0), (.int .i64 0), (.int .i64 0)]) (vs := [(.int .u8 5), (.int .i64 208), (.int .i64 gw)]) hs42 (by kernel_rfl) (by simp) rfl (fun w44 hs45 => ?_)
  have hs46 : St B w [] w44 [blk b43 (.cells [(.int .u8 5), (.int .i64 208), (.int .i64 gw)].toArray 196 (0, 0)), blk b30 (.cells [(.int .u8 2), (.int .i64 64), (.int .i64 4)].toArray 196 (0, 0)), blk b17 (.cells [(.int .u8 1), (.int .i64 8), (.int .i64 1)].toArray 196 (0, 0)), blk b4 (.cells [(.int .i64 gw), (.int .i64 gi), (.int .i64 gb)].toArray 63 (0, 0))] := hs45
  refine ops_done (by kernel_rfl) ?_
  refine hK40 _ _ ?_
  clear hK40
  refine W.seq fun K47 hK47 => ?_
  refine W.seq fun K48 hK48 => ?_
  refine W.region ?_
  refine ops_run 1 (by kernel_rfl) ?_
  refine ops_R (runs_load (ad := ⟨b43, 0, none⟩) (v := (.int .u8 5)) (by kernel_rfl) (hs46.cellAt 0 rfl rfl)) ?_
  refine ops_run 2 (by kernel_rfl) ?_
  refine ops_done (by kernel_rfl) ?_
  refine hK48 _ _ ?_
  clear hK48
  refine W.cond_true true (by kernel_rfl) rfl ?_
  refine W.seq fun K49 hK49 => ?_
  refine W.region ?_
  refine ops_run 2 (by kernel_rfl) ?_
  refine ops_R (runs_load (ad := ⟨b43, 1, none⟩) (v := (.int .i64 208)) (by kernel_rfl) (hs46.cellAt 0 rfl rfl)) ?_
  refine ops_run 1 (by kernel_rfl) ?_
  refine ops_R (runs_load (ad := ⟨b43, 2, none⟩) (v := (.int .i64 gw)) (by kernel_rfl) (hs46.cellAt 0 rfl rfl)) ?_
  refine ops_val (v := .int .i64 (IntKind.i64.wrap (208 * gw))) (v' := .int .i64 (208 * gw)) (by kernel_rfl) (congrArg (Value.int .i64) (wrap_i64 (by omega) (by omega))) ?_
  refine ops_val (v := .int .i64 (IntKind.i64.wrap (264 + (208 * gw)))) (v' := .int .i64 (264 + (208 * gw))) (by kernel_rfl) (congrArg (Value.int .i64) (wrap_i64 (by omega) (by omega))) ?_
  refine ops_run 1 (by kernel_rfl) ?_
  refine ops_done (by kernel_rfl) ?_
  refine hK49 _ _ ?_
  clear hK49
  refine W.exit (exit_seq (exit_here ?_))
  refine hK39 _ _ ?_
  clear hK39
  refine W.region ?_
  refine ops_run 2 (by kernel_rfl) ?_
  refine ops_done (by kernel_rfl) ?_
  refine loopAt_next ?_
  refine loopAt_round ?_
  refine W.seq fun K50 hK50 => ?_
  refine W.region ?_
  refine ops_run 1 (by kernel_rfl) ?_
  refine ops_done (by kernel_rfl) ?_
  refine hK50 _ _ ?_
  clear hK50
  refine W.seq fun K51 hK51 => ?_
  refine W.cond_true true (by kernel_rfl) rfl ?_
  refine W.skip ?_
  refine hK51 _ _ ?_
  clear hK51
  refine W.seq fun K52 hK52 => ?_
  refine W.block ?_
  refine W.seq fun K53 hK53 => ?_
  refine W.region ?_
  refine ops_run 1 (by kernel_rfl) ?_
  refine ops_new (fun b => .pointer (some ⟨b, 0, none⟩)) (.cells [(.int .u8 0), (.int .i64 0), (.int .i64 0)].toArray 196 (0, 0)) hs46 (by kernel_rfl) (fun b56 w54 hs55 => ?_)
  refine ops_store (off := 0) (cs := [(.int .u8 0), (.int .i64 0), (.int .i64 0)]) (vs := [(.int .u8 6), (.int .i64 8), (.int .i64 1)]) hs55 (by kernel_rfl) (by simp) rfl (fun w57 hs58 => ?_)
  have hs59 : St B w [] w57 [blk b56 (.cells [(.int .u8 6), (.int .i64 8), (.int .i64 1)].toArray 196 (0, 0)), blk b43 (.cells [(.int .u8 5), (.int .i64 208), (.int .i64 gw)].toArray 196 (0, 0)), blk b30 (.cells [(.int .u8 2), (.int .i64 64), (.int .i64 4)].toArray 196 (0, 0)), blk b17 (.cells [(.int .u8 1), (.int .i64 8), (.int .i64 1)].toArray 196 (0, 0)), blk b4 (.cells [(.int .i64 gw), (.int .i64 gi), (.int .i64 gb)].toArray 63 (0, 0))] := hs58
  refine ops_done (by kernel_rfl) ?_
  refine hK53 _ _ ?_
  clear hK53
  refine W.seq fun K60 hK60 => ?_
  refine W.seq fun K61 hK61 => ?_
  refine W.region ?_
  refine ops_run 1 (by kernel_rfl) ?_
  refine ops_R (runs_load (ad := ⟨b56, 0, none⟩) (v := (.int .u8 6)) (by kernel_rfl) (hs59.cellAt 0 rfl rfl)) ?_
  refine ops_run 2 (by kernel_rfl) ?_
  refine ops_done (by kernel_rfl) ?_
  refine hK61 _ _ ?_
  clear hK61
  refine W.cond_true true (by kernel_rfl) rfl ?_
  refine W.seq fun K62 hK62 => ?_
  refine W.region ?_
  refine ops_run 2 (by kernel_rfl) ?_
  refine ops_R (runs_load (ad := ⟨b56, 1, none⟩) (v := (.int .i64 8)) (by kernel_rfl) (hs59.cellAt 0 rfl rfl)) ?_
  refine ops_run 1 (by kernel_rfl) ?_
  refine ops_R (runs_load (ad := ⟨b56, 2, none⟩) (v := (.int .i64 1)) (by kernel_rfl) (hs59.cellAt 0 rfl rfl)) ?_
  refine ops_run 1 (by kernel_rfl) ?_
  refine ops_val (v := .int .i64 (IntKind.i64.wrap ((264 + (208 * gw)) + 8))) (v' := .int .i64 ((264 + (208 * gw)) + 8)) (by kernel_rfl) (congrArg (Value.int .i64) (wrap_i64 (by omega) (by omega))) ?_
  refine ops_run 1 (by kernel_rfl) ?_
  refine ops_done (by kernel_rfl) ?_
  refine hK62 _ _ ?_
  clear hK62
  refine W.exit (exit_seq (exit_here ?_))
  refine hK52 _ _ ?_
  clear hK52
  refine W.region ?_
  refine ops_run 2 (by kernel_rfl) ?_
  refine ops_done (by kernel_rfl) ?_
  refine loopAt_next ?_
  refine loopAt_round ?_
  refine W.seq fun K63 hK63 => ?_
  refine W.region ?_
  refine ops_run 1 (by kernel_rfl) ?_
  refine ops_done (by kernel_rfl) ?_
  refine hK63 _ _ ?_
  clear hK63
  refine W.seq fun K64 hK64 => ?_
  refine W.cond_true true (by kernel_rfl) rfl ?_
  refine W.skip ?_
  refine hK64 _ _ ?_
  clear hK64
  refine W.seq fun K65 hK65 => ?_
  refine W.block ?_
  refine W.seq fun K66 hK66 => ?_
  refine W.region ?_
  refine ops_run 1 (by kernel_rfl) ?_
  refine ops_new (fun b => .pointer (some ⟨b, 0, none⟩)) (.cells [(.int .u8 0), (.int .i64 0), (.int .i64 0)].toArray 196 (0, 0)) hs59 (by kernel_rfl) (fun b69 w67 hs68 => ?_)
  refine ops_store (off := 0) (cs := [(.int .u8 0), (.int .i64 0), (.int .i64 0)]) (vs := [(.int .u8 7), (.int .i64 8), (.int .i64 1)]) hs68 (by kernel_rfl) (by simp) rfl (fun w70 hs71 => ?_)
  have hs72 : St B w [] w70 [blk b69 (.cells [(.int .u8 7), (.int .i64 8), (.int .i64 1)].toArray 196 (0, 0)), blk b56 (.cells [(.int .u8 6), (.int .i64 8), (.int .i64 1)].toArray 196 (0, 0)), blk b43 (.cells [(.int .u8 5), (.int .i64 208), (.int .i64 gw)].toArray 196 (0, 0)), blk b30 (.cells [(.int .u8 2), (.int .i64 64), (.int .i64 4)].toArray 196 (0, 0)), blk b17 (.cells [(.int .u8 1), (.int .i64 8), (.int .i64 1)].toArray 196 (0, 0)), blk b4 (.cells [(.int .i64 gw), (.int .i64 gi), (.int .i64 gb)].toArray 63 (0, 0))] := hs71
  refine ops_done (by kernel_rfl) ?_
  refine hK66 _ _ ?_
  clear hK66
  refine W.seq fun K73 hK73 => ?_
  refine W.seq fun K74 hK74 => ?_
  refine W.region ?_
  refine ops_run 1 (by kernel_rfl) ?_
  refine ops_R (runs_load (ad := ⟨b69, 0, none⟩) (v := (.int .u8 7)) (by kernel_rfl) (hs72.cellAt 0 rfl rfl)) ?_
  refine ops_run 2 (by kernel_rfl) ?_
  refine ops_done (by kernel_rfl) ?_
  refine hK74 _ _ ?_
  clear hK74
  refine W.cond_false false (by kernel_rfl) rfl ?_
  refine W.skip ?_
  refine hK73 _ _ ?_
  clear hK73
  refine W.seq fun K75 hK75 => ?_
  refine W.seq fun K76 hK76 => ?_
  refine W.region ?_
  refine ops_R (runs_loadAgg (ad := ⟨b4, 0, none⟩) (cs := [(.int .i64 gw), (.int .i64 gi), (.int .i64 gb)]) (by kernel_rfl) (cells_sub (hs72.heapAt 5 rfl) rfl)) ?_
  refine ops_call0 hs72 (by kernel_rfl) (may_spec (gw := gw) (gi := gi) (gb := gb) B _) ?_
  rintro _ _ w77 ⟨rfl, rfl⟩ hs78
  have hs79 := St.ap0 hs78
  refine ops_run 1 (by kernel_rfl) ?_
  rcases Bool.eq_false_or_eq_true (decide (May gw gi gb)) with h80 | h80
  ·
    have h80p : May gw gi gb := of_decide_eq_true h80
    refine ops_set 28 (v := .bool true) (eq_bool_of (by kernel_rfl) h80) ?_
    refine ops_set 27 (v := .bool true) (eq_bool_of (by kernel_rfl) h80) ?_
    refine ops_run 2 (by kernel_rfl) ?_
    refine ops_R (runs_load (ad := ⟨b69, 2, none⟩) (v := (.int .i64 1)) (by kernel_rfl) (hs79.cellAt 0 rfl rfl)) ?_
    refine ops_run 1 (by kernel_rfl) ?_
    refine ops_call0 hs79 (by kernel_rfl) (within_spec (n_ := n_) (f_ := 0) (t_ := 0) B _) ?_
    rintro _ _ w81 ⟨rfl, rfl⟩ hs82
    have hs83 := St.ap0 hs82
    refine ops_run 1 (by kernel_rfl) ?_
    refine ops_done (by kernel_rfl) ?_
    refine hK76 _ _ ?_
    clear hK76
    refine W.cond (decide (0 ≤ n_ ∧ n_ ≤ 0)) (by kernel_rfl) (fun h84 => ?_) (fun h84 => ?_)
    ·
      have h84p : 0 ≤ n_ ∧ n_ ≤ 0 := of_decide_eq_true h84
      refine W.seq fun K85 hK85 => ?_
      refine W.region ?_
      refine ops_run 2 (by kernel_rfl) ?_
      refine ops_R (runs_load (ad := ⟨b69, 1, none⟩) (v := (.int .i64 8)) (by kernel_rfl) (hs83.cellAt 0 rfl rfl)) ?_
      refine ops_run 1 (by kernel_rfl) ?_
      refine ops_val (v := .int .i64 (IntKind.i64.wrap (8 * n_))) (v' := .int .i64 (8 * n_)) (by kernel_rfl) (congrArg (Value.int .i64) (wrap_i64 (by omega) (by omega))) ?_
      refine ops_val (v := .int .i64 (IntKind.i64.wrap (((264 + (208 * gw)) + 8) + (8 * n_)))) (v' := .int .i64 (((264 + (208 * gw)) + 8) + (8 * n_))) (by kernel_rfl) (congrArg (Value.int .i64) (wrap_i64 (by omega) (by omega))) ?_
      refine ops_run 1 (by kernel_rfl) ?_
      refine ops_done (by kernel_rfl) ?_
      refine hK85 _ _ ?_
      clear hK85
      refine W.ret (ret_seq (ret_block (ret_seq (ret_seq (ret_block (ret_seq ?_))))))
      have hs86 := St.tk0 hs83
      refine ret_of (.int .i64 (((264 + (208 * gw)) + 8) + (8 * n_))) (by kernel_rfl) ⟨_, ⟨congrArg (Value.int .i64) (by first | contradiction | (simp only [placeOf, if_pos hm]; split <;> omega) | (simp only [placeOf, if_neg hm]; done) | (simp only [placeOf, if_pos hm]; omega)), rfl⟩, hs86⟩
    ·
      have h84p : ¬ (0 ≤ n_ ∧ n_ ≤ 0) := of_decide_eq_false h84
      refine W.skip ?_
      refine hK75 _ _ ?_
      clear hK75
      refine W.exit (exit_block (by decide) (exit_seq (exit_seq (exit_here ?_))))
      refine hK6 _ _ ?_
      clear hK6
      refine W.seq fun K87 hK87 => ?_
      refine W.region ?_
      refine ops_run 1 (by kernel_rfl) ?_
      refine ops_done (by kernel_rfl) ?_
      refine hK87 _ _ ?_
      clear hK87
      refine W.ret ?_
      have hs88 := St.tk0 hs83
      refine ret_of (.int .i64 (-1)) (by kernel_rfl) ⟨_, ⟨congrArg (Value.int .i64) (by first | contradiction | (simp only [placeOf, if_pos hm]; split <;> omega) | (simp only [placeOf, if_neg hm]; done) | (simp only [placeOf, if_pos hm]; omega)), rfl⟩, hs88⟩
  ·
    have h80p : ¬ (May gw gi gb) := of_decide_eq_false h80
    refine ops_set 28 (v := .bool false) (eq_bool_of (by kernel_rfl) h80) ?_
    refine ops_set 27 (v := .bool false) (eq_bool_of (by kernel_rfl) h80) ?_
    refine ops_run 6 (by kernel_rfl) ?_
    refine ops_done (by kernel_rfl) ?_
    refine hK76 _ _ ?_
    clear hK76
    refine W.cond_false false (by kernel_rfl) rfl ?_
    refine W.skip ?_
    refine hK75 _ _ ?_
    clear hK75
    refine W.exit (exit_block (by decide) (exit_seq (exit_seq (exit_here ?_))))
    refine hK6 _ _ ?_
    clear hK6
    refine W.seq fun K89 hK89 => ?_
    refine W.region ?_
    refine ops_run 1 (by kernel_rfl) ?_
    refine ops_done (by kernel_rfl) ?_
    refine hK89 _ _ ?_
    clear hK89
    refine W.ret ?_
    have hs90 := St.tk0 hs79
    refine ret_of (.int .i64 (-1)) (by kernel_rfl) ⟨_, ⟨congrArg (Value.int .i64) (by first | contradiction | (simp only [placeOf, if_pos hm]; split <;> omega) | (simp only [placeOf, if_neg hm]; done) | (simp only [placeOf, if_pos hm]; omega)), rfl⟩, hs90⟩

set_option maxRecDepth 20000 in
theorem place7_not {gw gi gb n_ : Int} (B : Nat) (w : World) (hm : ¬ May gw gi gb) : Spec Tryd.prog 134 #[(.agg #[(.int .i64 gw), (.int .i64 gi), (.int .i64 gb)]), (.int .u8 7), (.int .i64 n_)] B w [] (fun v H' => v = .int .i64 (placeOf 7 gw gi gb n_) ∧ H' = []) := by
  refine spec_Q Tryd.func134 rfl fun hs => ?_
  refine W.seq fun K1 hK1 => ?_
  refine W.region ?_
  refine ops_new (fun b => .pointer (some ⟨b, 0, none⟩)) (.cells [(.int .i64 gw), (.int .i64 gi), (.int .i64 gb)].toArray 63 (0, 0)) hs (by kernel_rfl) (fun b4 w2 hs3 => ?_)
  refine ops_run 1 (by kernel_rfl) ?_
  refine ops_done (by kernel_rfl) ?_
  refine hK1 _ _ ?_
  clear hK1
  refine W.seq fun K5 hK5 => ?_
  refine W.region ?_
  refine ops_run 1 (by kernel_rfl) ?_
  refine ops_done (by kernel_rfl) ?_
  refine hK5 _ _ ?_
  clear hK5
  refine W.seq fun K6 hK6 => ?_
  refine W.seq fun K7 hK7 => ?_
  refine W.region ?_
  refine ops_R (runs_loadAgg (ad := ⟨b4, 0, none⟩) (cs := [(.int .i64 gw), (.int .i64 gi), (.int .i64 gb)]) (by kernel_rfl) (cells_sub (hs3.heapAt 0 rfl) rfl)) ?_
  refine ops_call0 hs3 (by kernel_rfl) (rows_spec (gw := gw) (gi := gi) (gb := gb) B _) ?_
  rintro _ _ w8 ⟨rfl, rfl⟩ hs9
  have hs10 := St.ap0 hs9
  refine ops_run 1 (by kernel_rfl) ?_
  refine ops_done (by kernel_rfl) ?_
  refine hK7 _ _ ?_
  clear hK7
  refine W.block ?_
  refine W.loop_start ?_
  refine loopAt_round ?_
  refine W.seq fun K11 hK11 => ?_
  refine W.region ?_
  refine ops_run 1 (by kernel_rfl) ?_
  refine ops_done (by kernel_rfl) ?_
  refine hK11 _ _ ?_
  clear hK11
  refine W.seq fun K12 hK12 => ?_
  refine W.cond_true true (by kernel_rfl) rfl ?_
  refine W.skip ?_
  refine hK12 _ _ ?_
  clear hK12
  refine W.seq fun K13 hK13 => ?_
  refine W.block ?_
  refine W.seq fun K14 hK14 => ?_
  refine W.region ?_
  refine ops_run 1 (by kernel_rfl) ?_
  refine ops_new (fun b => .pointer (some ⟨b, 0, none⟩)) (.cells [(.int .u8 0), (.int .i64 0), (.int .i64 0)].toArray 196 (0, 0)) hs10 (by kernel_rfl) (fun b17 w15 hs16 => ?_)
  refine ops_store (off := 0) (cs := [(.int .u8 0), (.int .i64 0), (.int .i64 0)]) (vs := [(.int .u8 1), (.int .i64 8), (.int .i64 1)]) hs16 (by kernel_rfl) (by simp) rfl (fun w18 hs19 => ?_)
  have hs20 : St B w [] w18 [blk b17 (.cells [(.int .u8 1), (.int .i64 8), (.int .i64 1)].toArray 196 (0, 0)), blk b4 (.cells [(.int .i64 gw), (.int .i64 gi), (.int .i64 gb)].toArray 63 (0, 0))] := hs19
  refine ops_done (by kernel_rfl) ?_
  refine hK14 _ _ ?_
  clear hK14
  refine W.seq fun K21 hK21 => ?_
  refine W.seq fun K22 hK22 => ?_
  refine W.region ?_
  refine ops_run 1 (by kernel_rfl) ?_
  refine ops_R (runs_load (ad := ⟨b17, 0, none⟩) (v := (.int .u8 1)) (by kernel_rfl) (hs20.cellAt 0 rfl rfl)) ?_
  refine ops_run 2 (by kernel_rfl) ?_
  refine ops_done (by kernel_rfl) ?_
  refine hK22 _ _ ?_
  clear hK22
  refine W.cond_true true (by kernel_rfl) rfl ?_
  refine W.seq fun K23 hK23 => ?_
  refine W.region ?_
  refine ops_run 2 (by kernel_rfl) ?_
  refine ops_R (runs_load (ad := ⟨b17, 1, none⟩) (v := (.int .i64 8)) (by kernel_rfl) (hs20.cellAt 0 rfl rfl)) ?_
  refine ops_run 1 (by kernel_rfl) ?_
  refine ops_R (runs_load (ad := ⟨b17, 2, none⟩) (v := (.int .i64 1)) (by kernel_rfl) (hs20.cellAt 0 rfl rfl)) ?_
  refine ops_run 3 (by kernel_rfl) ?_
  refine ops_done (by kernel_rfl) ?_
  refine hK23 _ _ ?_
  clear hK23
  refine W.exit (exit_seq (exit_here ?_))
  refine hK13 _ _ ?_
  clear hK13
  refine W.region ?_
  refine ops_run 2 (by kernel_rfl) ?_
  refine ops_done (by kernel_rfl) ?_
  refine loopAt_next ?_
  refine loopAt_round ?_
  refine W.seq fun K24 hK24 => ?_
  refine W.region ?_
  refine ops_run 1 (by kernel_rfl) ?_
  refine ops_done (by kernel_rfl) ?_
  refine hK24 _ _ ?_
  clear hK24
  refine W.seq fun K25 hK25 => ?_
  refine W.cond_true true (by kernel_rfl) rfl ?_
  refine W.skip ?_
  refine hK25 _ _ ?_
  clear hK25
  refine W.seq fun K26 hK26 => ?_
  refine W.block ?_
  refine W.seq fun K27 hK27 => ?_
  refine W.region ?_
  refine ops_run 1 (by kernel_rfl) ?_
  refine ops_new (fun b => .pointer (some ⟨b, 0, none⟩)) (.cells [(.int .u8 0), (.int .i64 0), (.int .i64 0)].toArray 196 (0, 0)) hs20 (by kernel_rfl) (fun b30 w28 hs29 => ?_)
  refine ops_store (off := 0) (cs := [(.int .u8 0), (.int .i64 0), (.int .i64 0)]) (vs := [(.int .u8 2), (.int .i64 64), (.int .i64 4)]) hs29 (by kernel_rfl) (by simp) rfl (fun w31 hs32 => ?_)
  have hs33 : St B w [] w31 [blk b30 (.cells [(.int .u8 2), (.int .i64 64), (.int .i64 4)].toArray 196 (0, 0)), blk b17 (.cells [(.int .u8 1), (.int .i64 8), (.int .i64 1)].toArray 196 (0, 0)), blk b4 (.cells [(.int .i64 gw), (.int .i64 gi), (.int .i64 gb)].toArray 63 (0, 0))] := hs32
  refine ops_done (by kernel_rfl) ?_
  refine hK27 _ _ ?_
  clear hK27
  refine W.seq fun K34 hK34 => ?_
  refine W.seq fun K35 hK35 => ?_
  refine W.region ?_
  refine ops_run 1 (by kernel_rfl) ?_
  refine ops_R (runs_load (ad := ⟨b30, 0, none⟩) (v := (.int .u8 2)) (by kernel_rfl) (hs33.cellAt 0 rfl rfl)) ?_
  refine ops_run 2 (by kernel_rfl) ?_
  refine ops_done (by kernel_rfl) ?_
  refine hK35 _ _ ?_
  clear hK35
  refine W.cond_true true (by kernel_rfl) rfl ?_
  refine W.seq fun K36 hK36 => ?_
  refine W.region ?_
  refine ops_run 2 (by kernel_rfl) ?_
  refine ops_R (runs_load (ad := ⟨b30, 1, none⟩) (v := (.int .i64 64)) (by kernel_rfl) (hs33.cellAt 0 rfl rfl)) ?_
  refine ops_run 1 (by kernel_rfl) ?_
  refine ops_R (runs_load (ad := ⟨b30, 2, none⟩) (v := (.int .i64 4)) (by kernel_rfl) (hs33.cellAt 0 rfl rfl)) ?_
  refine ops_run 3 (by kernel_rfl) ?_
  refine ops_done (by kernel_rfl) ?_
  refine hK36 _ _ ?_
  clear hK36
  refine W.exit (exit_seq (exit_here ?_))
  refine hK26 _ _ ?_
  clear hK26
  refine W.region ?_
  refine ops_run 2 (by kernel_rfl) ?_
  refine ops_done (by kernel_rfl) ?_
  refine loopAt_next ?_
  refine loopAt_round ?_
  refine W.seq fun K37 hK37 => ?_
  refine W.region ?_
  refine ops_run 1 (by kernel_rfl) ?_
  refine ops_done (by kernel_rfl) ?_
  refine hK37 _ _ ?_
  clear hK37
  refine W.seq fun K38 hK38 => ?_
  refine W.cond_true true (by kernel_rfl) rfl ?_
  refine W.skip ?_
  refine hK38 _ _ ?_
  clear hK38
  refine W.seq fun K39 hK39 => ?_
  refine W.block ?_
  refine W.seq fun K40 hK40 => ?_
  refine W.region ?_
  refine ops_run 1 (by kernel_rfl) ?_
  refine ops_new (fun b => .pointer (some ⟨b, 0, none⟩)) (.cells [(.int .u8 0), (.int .i64 0), (.int .i64 0)].toArray 196 (0, 0)) hs33 (by kernel_rfl) (fun b43 w41 hs42 => ?_)
  refine ops_store (off := 0) (cs := [(.int .u8 0), (.int .i64 0), (.int .i64 0)]) (vs := [(.int .u8 5), (.int .i64 208), (.int .i64 gw)]) hs42 (by kernel_rfl) (by simp) rfl (fun w44 hs45 => ?_)
  have hs46 : St B w [] w44 [blk b43 (.cells [(.int .u8 5), (.int .i64 208), (.int .i64 gw)].toArray 196 (0, 0)), blk b30 (.cells [(.int .u8 2), (.int .i64 64), (.int .i64 4)].toArray 196 (0, 0)), blk b17 (.cells [(.int .u8 1), (.int .i64 8), (.int .i64 1)].toArray 196 (0, 0)), blk b4 (.cells [(.int .i64 gw), (.int .i64 gi), (.int .i64 gb)].toArray 63 (0, 0))] := hs45
  refine ops_done (by kernel_rfl) ?_
  refine hK40 _ _ ?_
  clear hK40
  refine W.seq fun K47 hK47 => ?_
  refine W.seq fun K48 hK48 => ?_
  refine W.region ?_
  refine ops_run 1 (by kernel_rfl) ?_
  refine ops_R (runs_load (ad := ⟨b43, 0, none⟩) (v := (.int .u8 5)) (by kernel_rfl) (hs46.cellAt 0 rfl rfl)) ?_
  refine ops_run 2 (by kernel_rfl) ?_
  refine ops_done (by kernel_rfl) ?_
  refine hK48 _ _ ?_
  clear hK48
  refine W.cond_true true (by kernel_rfl) rfl ?_
  refine W.seq fun K49 hK49 => ?_
  refine W.region ?_
  refine ops_run 2 (by kernel_rfl) ?_
  refine ops_R (runs_load (ad := ⟨b43, 1, none⟩) (v := (.int .i64 208)) (by kernel_rfl) (hs46.cellAt 0 rfl rfl)) ?_
  refine ops_run 1 (by kernel_rfl) ?_
  refine ops_R (runs_load (ad := ⟨b43, 2, none⟩) (v := (.int .i64 gw)) (by kernel_rfl) (hs46.cellAt 0 rfl rfl)) ?_
  refine ops_val (v := .int .i64 (IntKind.i64.wrap (208 * gw))) (v' := .int .i64 (IntKind.i64.wrap (208 * gw))) (by kernel_rfl) rfl ?_
  refine ops_val (v := .int .i64 (IntKind.i64.wrap (264 + (IntKind.i64.wrap (208 * gw))))) (v' := .int .i64 (IntKind.i64.wrap (264 + (IntKind.i64.wrap (208 * gw))))) (by kernel_rfl) rfl ?_
  refine ops_run 1 (by kernel_rfl) ?_
  refine ops_done (by kernel_rfl) ?_
  refine hK49 _ _ ?_
  clear hK49
  refine W.exit (exit_seq (exit_here ?_))
  refine hK39 _ _ ?_
  clear hK39
  refine W.region ?_
  refine ops_run 2 (by kernel_rfl) ?_
  refine ops_done (by kernel_rfl) ?_
  refine loopAt_next ?_
  refine loopAt_round ?_
  refine W.seq fun K50 hK50 => ?_
  refine W.region ?_
  refine ops_run 1 (by kernel_rfl) ?_
  refine ops_done (by kernel_rfl) ?_
  refine hK50 _ _ ?_
  clear hK50
  refine W.seq fun K51 hK51 => ?_
  refine W.cond_true true (by kernel_rfl) rfl ?_
  refine W.skip ?_
  refine hK51 _ _ ?_
  clear hK51
  refine W.seq fun K52 hK52 => ?_
  refine W.block ?_
  refine W.seq fun K53 hK53 => ?_
  refine W.region ?_
  refine ops_run 1 (by kernel_rfl) ?_
  refine ops_new (fun b => .pointer (some ⟨b, 0, none⟩)) (.cells [(.int .u8 0), (.int .i64 0), (.int .i64 0)].toArray 196 (0, 0)) hs46 (by kernel_rfl) (fun b56 w54 hs55 => ?_)
  refine ops_store (off := 0) (cs := [(.int .u8 0), (.int .i64 0), (.int .i64 0)]) (vs := [(.int .u8 6), (.int .i64 8), (.int .i64 1)]) hs55 (by kernel_rfl) (by simp) rfl (fun w57 hs58 => ?_)
  have hs59 : St B w [] w57 [blk b56 (.cells [(.int .u8 6), (.int .i64 8), (.int .i64 1)].toArray 196 (0, 0)), blk b43 (.cells [(.int .u8 5), (.int .i64 208), (.int .i64 gw)].toArray 196 (0, 0)), blk b30 (.cells [(.int .u8 2), (.int .i64 64), (.int .i64 4)].toArray 196 (0, 0)), blk b17 (.cells [(.int .u8 1), (.int .i64 8), (.int .i64 1)].toArray 196 (0, 0)), blk b4 (.cells [(.int .i64 gw), (.int .i64 gi), (.int .i64 gb)].toArray 63 (0, 0))] := hs58
  refine ops_done (by kernel_rfl) ?_
  refine hK53 _ _ ?_
  clear hK53
  refine W.seq fun K60 hK60 => ?_
  refine W.seq fun K61 hK61 => ?_
  refine W.region ?_
  refine ops_run 1 (by kernel_rfl) ?_
  refine ops_R (runs_load (ad := ⟨b56, 0, none⟩) (v := (.int .u8 6)) (by kernel_rfl) (hs59.cellAt 0 rfl rfl)) ?_
  refine ops_run 2 (by kernel_rfl) ?_
  refine ops_done (by kernel_rfl) ?_
  refine hK61 _ _ ?_
  clear hK61
  refine W.cond_true true (by kernel_rfl) rfl ?_
  refine W.seq fun K62 hK62 => ?_
  refine W.region ?_
  refine ops_run 2 (by kernel_rfl) ?_
  refine ops_R (runs_load (ad := ⟨b56, 1, none⟩) (v := (.int .i64 8)) (by kernel_rfl) (hs59.cellAt 0 rfl rfl)) ?_
  refine ops_run 1 (by kernel_rfl) ?_
  refine ops_R (runs_load (ad := ⟨b56, 2, none⟩) (v := (.int .i64 1)) (by kernel_rfl) (hs59.cellAt 0 rfl rfl)) ?_
  refine ops_run 1 (by kernel_rfl) ?_
  refine ops_val (v := .int .i64 (IntKind.i64.wrap ((IntKind.i64.wrap (264 + (IntKind.i64.wrap (208 * gw)))) + 8))) (v' := .int .i64 (IntKind.i64.wrap ((IntKind.i64.wrap (264 + (IntKind.i64.wrap (208 * gw)))) + 8))) (by kernel_rfl) rfl ?_
  refine ops_run 1 (by kernel_rfl) ?_
  refine ops_done (by kernel_rfl) ?_
  refine hK62 _ _ ?_
  clear hK62
  refine W.exit (exit_seq (exit_here ?_))
  refine hK52 _ _ ?_
  clear hK52
  refine W.region ?_
  refine ops_run 2 (by kernel_rfl) ?_
  refine ops_done (by kernel_rfl) ?_
  refine loopAt_next ?_
  refine loopAt_round ?_
  refine W.seq fun K63 hK63 => ?_
  refine W.region ?_
  refine ops_run 1 (by kernel_rfl) ?_
  refine ops_done (by kernel_rfl) ?_
  refine hK63 _ _ ?_
  clear hK63
  refine W.seq fun K64 hK64 => ?_
  refine W.cond_true true (by kernel_rfl) rfl ?_
  refine W.skip ?_
  refine hK64 _ _ ?_
  clear hK64
  refine W.seq fun K65 hK65 => ?_
  refine W.block ?_
  refine W.seq fun K66 hK66 => ?_
  refine W.region ?_
  refine ops_run 1 (by kernel_rfl) ?_
  refine ops_new (fun b => .pointer (some ⟨b, 0, none⟩)) (.cells [(.int .u8 0), (.int .i64 0), (.int .i64 0)].toArray 196 (0, 0)) hs59 (by kernel_rfl) (fun b69 w67 hs68 => ?_)
  refine ops_store (off := 0) (cs := [(.int .u8 0), (.int .i64 0), (.int .i64 0)]) (vs := [(.int .u8 7), (.int .i64 8), (.int .i64 1)]) hs68 (by kernel_rfl) (by simp) rfl (fun w70 hs71 => ?_)
  have hs72 : St B w [] w70 [blk b69 (.cells [(.int .u8 7), (.int .i64 8), (.int .i64 1)].toArray 196 (0, 0)), blk b56 (.cells [(.int .u8 6), (.int .i64 8), (.int .i64 1)].toArray 196 (0, 0)), blk b43 (.cells [(.int .u8 5), (.int .i64 208), (.int .i64 gw)].toArray 196 (0, 0)), blk b30 (.cells [(.int .u8 2), (.int .i64 64), (.int .i64 4)].toArray 196 (0, 0)), blk b17 (.cells [(.int .u8 1), (.int .i64 8), (.int .i64 1)].toArray 196 (0, 0)), blk b4 (.cells [(.int .i64 gw), (.int .i64 gi), (.int .i64 gb)].toArray 63 (0, 0))] := hs71
  refine ops_done (by kernel_rfl) ?_
  refine hK66 _ _ ?_
  clear hK66
  refine W.seq fun K73 hK73 => ?_
  refine W.seq fun K74 hK74 => ?_
  refine W.region ?_
  refine ops_run 1 (by kernel_rfl) ?_
  refine ops_R (runs_load (ad := ⟨b69, 0, none⟩) (v := (.int .u8 7)) (by kernel_rfl) (hs72.cellAt 0 rfl rfl)) ?_
  refine ops_run 2 (by kernel_rfl) ?_
  refine ops_done (by kernel_rfl) ?_
  refine hK74 _ _ ?_
  clear hK74
  refine W.cond_false false (by kernel_rfl) rfl ?_
  refine W.skip ?_
  refine hK73 _ _ ?_
  clear hK73
  refine W.seq fun K75 hK75 => ?_
  refine W.seq fun K76 hK76 => ?_
  refine W.region ?_
  refine ops_R (runs_loadAgg (ad := ⟨b4, 0, none⟩) (cs := [(.int .i64 gw), (.int .i64 gi), (.int .i64 gb)]) (by kernel_rfl) (cells_sub (hs72.heapAt 5 rfl) rfl)) ?_
  refine ops_call0 hs72 (by kernel_rfl) (may_spec (gw := gw) (gi := gi) (gb := gb) B _) ?_
  rintro _ _ w77 ⟨rfl, rfl⟩ hs78
  have hs79 := St.ap0 hs78
  refine ops_run 1 (by kernel_rfl) ?_
  rcases Bool.eq_false_or_eq_true (decide (May gw gi gb)) with h80 | h80
  ·
    have h80p : May gw gi gb := of_decide_eq_true h80
    refine ops_set 28 (v := .bool true) (eq_bool_of (by kernel_rfl) h80) ?_
    refine ops_set 27 (v := .bool true) (eq_bool_of (by kernel_rfl) h80) ?_
    refine ops_run 2 (by kernel_rfl) ?_
    refine ops_R (runs_load (ad := ⟨b69, 2, none⟩) (v := (.int .i64 1)) (by kernel_rfl) (hs79.cellAt 0 rfl rfl)) ?_
    refine ops_run 1 (by kernel_rfl) ?_
    refine ops_call0 hs79 (by kernel_rfl) (within_spec (n_ := n_) (f_ := 0) (t_ := 0) B _) ?_
    rintro _ _ w81 ⟨rfl, rfl⟩ hs82
    have hs83 := St.ap0 hs82
    refine ops_run 1 (by kernel_rfl) ?_
    refine ops_done (by kernel_rfl) ?_
    refine hK76 _ _ ?_
    clear hK76
    refine W.cond (decide (0 ≤ n_ ∧ n_ ≤ 0)) (by kernel_rfl) (fun h84 => ?_) (fun h84 => ?_)
    ·
      have h84p : 0 ≤ n_ ∧ n_ ≤ 0 := of_decide_eq_true h84
      refine W.seq fun K85 hK85 => ?_
      refine W.region ?_
      refine ops_run 2 (by kernel_rfl) ?_
      refine ops_R (runs_load (ad := ⟨b69, 1, none⟩) (v := (.int .i64 8)) (by kernel_rfl) (hs83.cellAt 0 rfl rfl)) ?_
      refine ops_run 1 (by kernel_rfl) ?_
      refine ops_val (v := .int .i64 (IntKind.i64.wrap (8 * n_))) (v' := .int .i64 (IntKind.i64.wrap (8 * n_))) (by kernel_rfl) rfl ?_
      refine ops_val (v := .int .i64 (IntKind.i64.wrap ((IntKind.i64.wrap ((IntKind.i64.wrap (264 + (IntKind.i64.wrap (208 * gw)))) + 8)) + (IntKind.i64.wrap (8 * n_))))) (v' := .int .i64 (IntKind.i64.wrap ((IntKind.i64.wrap ((IntKind.i64.wrap (264 + (IntKind.i64.wrap (208 * gw)))) + 8)) + (IntKind.i64.wrap (8 * n_))))) (by kernel_rfl) rfl ?_
      refine ops_run 1 (by kernel_rfl) ?_
      refine ops_done (by kernel_rfl) ?_
      refine hK85 _ _ ?_
      clear hK85
      refine W.ret (ret_seq (ret_block (ret_seq (ret_seq (ret_block (ret_seq ?_))))))
      have hs86 := St.tk0 hs83
      refine ret_of (.int .i64 (IntKind.i64.wrap ((IntKind.i64.wrap ((IntKind.i64.wrap (264 + (IntKind.i64.wrap (208 * gw)))) + 8)) + (IntKind.i64.wrap (8 * n_))))) (by kernel_rfl) ⟨_, ⟨congrArg (Value.int .i64) (by first | contradiction | (simp only [placeOf, if_pos hm]; split <;> omega) | (simp only [placeOf, if_neg hm]; done) | (simp only [placeOf, if_pos hm]; omega)), rfl⟩, hs86⟩
    ·
      have h84p : ¬ (0 ≤ n_ ∧ n_ ≤ 0) := of_decide_eq_false h84
      refine W.skip ?_
      refine hK75 _ _ ?_
      clear hK75
      refine W.exit (exit_block (by decide) (exit_seq (exit_seq (exit_here ?_))))
      refine hK6 _ _ ?_
      clear hK6
      refine W.seq fun K87 hK87 => ?_
      refine W.region ?_
      refine ops_run 1 (by kernel_rfl) ?_
      refine ops_done (by kernel_rfl) ?_
      refine hK87 _ _ ?_
      clear hK87
      refine W.ret ?_
      have hs88 := St.tk0 hs83
      refine ret_of (.int .i64 (-1)) (by kernel_rfl) ⟨_, ⟨congrArg (Value.int .i64) (by first | contradiction | (simp only [placeOf, if_pos hm]; split <;> omega) | (simp only [placeOf, if_neg hm]; done) | (simp only [placeOf, if_pos hm]; omega)), rfl⟩, hs88⟩
  ·
    have h80p : ¬ (May gw gi gb) := of_decide_eq_false h80
    refine ops_set 28 (v := .bool false) (eq_bool_of (by kernel_rfl) h80) ?_
    refine ops_set 27 (v := .bool false) (eq_bool_of (by kernel_rfl) h80) ?_
    refine ops_run 6 (by kernel_rfl) ?_
    refine ops_done (by kernel_rfl) ?_
    refine hK76 _ _ ?_
    clear hK76
    refine W.cond_false false (by kernel_rfl) rfl ?_
    refine W.skip ?_
    refine hK75 _ _ ?_
    clear hK75
    refine W.exit (exit_block (by decide) (exit_seq (exit_seq (exit_here ?_))))
    refine hK6 _ _ ?_
    clear hK6
    refine W.seq fun K89 hK89 => ?_
    refine W.region ?_
    refine ops_run 1 (by kernel_rfl) ?_
    refine ops_done (by kernel_rfl) ?_
    refine hK89 _ _ ?_
    clear hK89
    refine W.ret ?_
    have hs90 := St.tk0 hs79
    refine ret_of (.int .i64 (-1)) (by kernel_rfl) ⟨_, ⟨congrArg (Value.int .i64) (by first | contradiction | (simp only [placeOf, if_pos hm]; split <;> omega) | (simp only [placeOf, if_neg hm]; done) | (simp only [placeOf, if_pos hm]; omega)), rfl⟩, hs90⟩

theorem place7_spec {gw gi gb n_ : Int} (B : Nat) (w : World) : Spec Tryd.prog 134 #[(.agg #[(.int .i64 gw), (.int .i64 gi), (.int .i64 gb)]), (.int .u8 7), (.int .i64 n_)] B w [] (fun v H' => v = .int .i64 (placeOf 7 gw gi gb n_) ∧ H' = []) := by
  by_cases hm : May gw gi gb
  · exact place7_may B w hm
  · exact place7_not B w hm

set_option maxRecDepth 20000 in
theorem place8_may {gw gi gb n_ : Int} (B : Nat) (w : World) (hm : May gw gi gb) : Spec Tryd.prog 134 #[(.agg #[(.int .i64 gw), (.int .i64 gi), (.int .i64 gb)]), (.int .u8 8), (.int .i64 n_)] B w [] (fun v H' => v = .int .i64 (placeOf 8 gw gi gb n_) ∧ H' = []) := by
  refine spec_Q Tryd.func134 rfl fun hs => ?_
  have hm_ : (1 ≤ gw ∧ gw ≤ 4) ∧ (2 ≤ gi ∧ gi ≤ 64) ∧ (2 ≤ gb ∧ gb ≤ 512) := hm
  refine W.seq fun K1 hK1 => ?_
  refine W.region ?_
  refine ops_new (fun b => .pointer (some ⟨b, 0, none⟩)) (.cells [(.int .i64 gw), (.int .i64 gi), (.int .i64 gb)].toArray 63 (0, 0)) hs (by kernel_rfl) (fun b4 w2 hs3 => ?_)
  refine ops_run 1 (by kernel_rfl) ?_
  refine ops_done (by kernel_rfl) ?_
  refine hK1 _ _ ?_
  clear hK1
  refine W.seq fun K5 hK5 => ?_
  refine W.region ?_
  refine ops_run 1 (by kernel_rfl) ?_
  refine ops_done (by kernel_rfl) ?_
  refine hK5 _ _ ?_
  clear hK5
  refine W.seq fun K6 hK6 => ?_
  refine W.seq fun K7 hK7 => ?_
  refine W.region ?_
  refine ops_R (runs_loadAgg (ad := ⟨b4, 0, none⟩) (cs := [(.int .i64 gw), (.int .i64 gi), (.int .i64 gb)]) (by kernel_rfl) (cells_sub (hs3.heapAt 0 rfl) rfl)) ?_
  refine ops_call0 hs3 (by kernel_rfl) (rows_spec (gw := gw) (gi := gi) (gb := gb) B _) ?_
  rintro _ _ w8 ⟨rfl, rfl⟩ hs9
  have hs10 := St.ap0 hs9
  refine ops_run 1 (by kernel_rfl) ?_
  refine ops_done (by kernel_rfl) ?_
  refine hK7 _ _ ?_
  clear hK7
  refine W.block ?_
  refine W.loop_start ?_
  refine loopAt_round ?_
  refine W.seq fun K11 hK11 => ?_
  refine W.region ?_
  refine ops_run 1 (by kernel_rfl) ?_
  refine ops_done (by kernel_rfl) ?_
  refine hK11 _ _ ?_
  clear hK11
  refine W.seq fun K12 hK12 => ?_
  refine W.cond_true true (by kernel_rfl) rfl ?_
  refine W.skip ?_
  refine hK12 _ _ ?_
  clear hK12
  refine W.seq fun K13 hK13 => ?_
  refine W.block ?_
  refine W.seq fun K14 hK14 => ?_
  refine W.region ?_
  refine ops_run 1 (by kernel_rfl) ?_
  refine ops_new (fun b => .pointer (some ⟨b, 0, none⟩)) (.cells [(.int .u8 0), (.int .i64 0), (.int .i64 0)].toArray 196 (0, 0)) hs10 (by kernel_rfl) (fun b17 w15 hs16 => ?_)
  refine ops_store (off := 0) (cs := [(.int .u8 0), (.int .i64 0), (.int .i64 0)]) (vs := [(.int .u8 1), (.int .i64 8), (.int .i64 1)]) hs16 (by kernel_rfl) (by simp) rfl (fun w18 hs19 => ?_)
  have hs20 : St B w [] w18 [blk b17 (.cells [(.int .u8 1), (.int .i64 8), (.int .i64 1)].toArray 196 (0, 0)), blk b4 (.cells [(.int .i64 gw), (.int .i64 gi), (.int .i64 gb)].toArray 63 (0, 0))] := hs19
  refine ops_done (by kernel_rfl) ?_
  refine hK14 _ _ ?_
  clear hK14
  refine W.seq fun K21 hK21 => ?_
  refine W.seq fun K22 hK22 => ?_
  refine W.region ?_
  refine ops_run 1 (by kernel_rfl) ?_
  refine ops_R (runs_load (ad := ⟨b17, 0, none⟩) (v := (.int .u8 1)) (by kernel_rfl) (hs20.cellAt 0 rfl rfl)) ?_
  refine ops_run 2 (by kernel_rfl) ?_
  refine ops_done (by kernel_rfl) ?_
  refine hK22 _ _ ?_
  clear hK22
  refine W.cond_true true (by kernel_rfl) rfl ?_
  refine W.seq fun K23 hK23 => ?_
  refine W.region ?_
  refine ops_run 2 (by kernel_rfl) ?_
  refine ops_R (runs_load (ad := ⟨b17, 1, none⟩) (v := (.int .i64 8)) (by kernel_rfl) (hs20.cellAt 0 rfl rfl)) ?_
  refine ops_run 1 (by kernel_rfl) ?_
  refine ops_R (runs_load (ad := ⟨b17, 2, none⟩) (v := (.int .i64 1)) (by kernel_rfl) (hs20.cellAt 0 rfl rfl)) ?_
  refine ops_run 3 (by kernel_rfl) ?_
  refine ops_done (by kernel_rfl) ?_
  refine hK23 _ _ ?_
  clear hK23
  refine W.exit (exit_seq (exit_here ?_))
  refine hK13 _ _ ?_
  clear hK13
  refine W.region ?_
  refine ops_run 2 (by kernel_rfl) ?_
  refine ops_done (by kernel_rfl) ?_
  refine loopAt_next ?_
  refine loopAt_round ?_
  refine W.seq fun K24 hK24 => ?_
  refine W.region ?_
  refine ops_run 1 (by kernel_rfl) ?_
  refine ops_done (by kernel_rfl) ?_
  refine hK24 _ _ ?_
  clear hK24
  refine W.seq fun K25 hK25 => ?_
  refine W.cond_true true (by kernel_rfl) rfl ?_
  refine W.skip ?_
  refine hK25 _ _ ?_
  clear hK25
  refine W.seq fun K26 hK26 => ?_
  refine W.block ?_
  refine W.seq fun K27 hK27 => ?_
  refine W.region ?_
  refine ops_run 1 (by kernel_rfl) ?_
  refine ops_new (fun b => .pointer (some ⟨b, 0, none⟩)) (.cells [(.int .u8 0), (.int .i64 0), (.int .i64 0)].toArray 196 (0, 0)) hs20 (by kernel_rfl) (fun b30 w28 hs29 => ?_)
  refine ops_store (off := 0) (cs := [(.int .u8 0), (.int .i64 0), (.int .i64 0)]) (vs := [(.int .u8 2), (.int .i64 64), (.int .i64 4)]) hs29 (by kernel_rfl) (by simp) rfl (fun w31 hs32 => ?_)
  have hs33 : St B w [] w31 [blk b30 (.cells [(.int .u8 2), (.int .i64 64), (.int .i64 4)].toArray 196 (0, 0)), blk b17 (.cells [(.int .u8 1), (.int .i64 8), (.int .i64 1)].toArray 196 (0, 0)), blk b4 (.cells [(.int .i64 gw), (.int .i64 gi), (.int .i64 gb)].toArray 63 (0, 0))] := hs32
  refine ops_done (by kernel_rfl) ?_
  refine hK27 _ _ ?_
  clear hK27
  refine W.seq fun K34 hK34 => ?_
  refine W.seq fun K35 hK35 => ?_
  refine W.region ?_
  refine ops_run 1 (by kernel_rfl) ?_
  refine ops_R (runs_load (ad := ⟨b30, 0, none⟩) (v := (.int .u8 2)) (by kernel_rfl) (hs33.cellAt 0 rfl rfl)) ?_
  refine ops_run 2 (by kernel_rfl) ?_
  refine ops_done (by kernel_rfl) ?_
  refine hK35 _ _ ?_
  clear hK35
  refine W.cond_true true (by kernel_rfl) rfl ?_
  refine W.seq fun K36 hK36 => ?_
  refine W.region ?_
  refine ops_run 2 (by kernel_rfl) ?_
  refine ops_R (runs_load (ad := ⟨b30, 1, none⟩) (v := (.int .i64 64)) (by kernel_rfl) (hs33.cellAt 0 rfl rfl)) ?_
  refine ops_run 1 (by kernel_rfl) ?_
  refine ops_R (runs_load (ad := ⟨b30, 2, none⟩) (v := (.int .i64 4)) (by kernel_rfl) (hs33.cellAt 0 rfl rfl)) ?_
  refine ops_run 3 (by kernel_rfl) ?_
  refine ops_done (by kernel_rfl) ?_
  refine hK36 _ _ ?_
  clear hK36
  refine W.exit (exit_seq (exit_here ?_))
  refine hK26 _ _ ?_
  clear hK26
  refine W.region ?_
  refine ops_run 2 (by kernel_rfl) ?_
  refine ops_done (by kernel_rfl) ?_
  refine loopAt_next ?_
  refine loopAt_round ?_
  refine W.seq fun K37 hK37 => ?_
  refine W.region ?_
  refine ops_run 1 (by kernel_rfl) ?_
  refine ops_done (by kernel_rfl) ?_
  refine hK37 _ _ ?_
  clear hK37
  refine W.seq fun K38 hK38 => ?_
  refine W.cond_true true (by kernel_rfl) rfl ?_
  refine W.skip ?_
  refine hK38 _ _ ?_
  clear hK38
  refine W.seq fun K39 hK39 => ?_
  refine W.block ?_
  refine W.seq fun K40 hK40 => ?_
  refine W.region ?_
  refine ops_run 1 (by kernel_rfl) ?_
  refine ops_new (fun b => .pointer (some ⟨b, 0, none⟩)) (.cells [(.int .u8 0), (.int .i64 0), (.int .i64 0)].toArray 196 (0, 0)) hs33 (by kernel_rfl) (fun b43 w41 hs42 => ?_)
  refine ops_store (off := 0) (cs := [(.int .u8 0), (.int .i64 0), (.int .i64 0)]) (vs := [(.int .u8 5), (.int .i64 208), (.int .i64 gw)]) hs42 (by kernel_rfl) (by simp) rfl (fun w44 hs45 => ?_)
  have hs46 : St B w [] w44 [blk b43 (.cells [(.int .u8 5), (.int .i64 208), (.int .i64 gw)].toArray 196 (0, 0)), blk b30 (.cells [(.int .u8 2), (.int .i64 64), (.int .i64 4)].toArray 196 (0, 0)), blk b17 (.cells [(.int .u8 1), (.int .i64 8), (.int .i64 1)].toArray 196 (0, 0)), blk b4 (.cells [(.int .i64 gw), (.int .i64 gi), (.int .i64 gb)].toArray 63 (0, 0))] := hs45
  refine ops_done (by kernel_rfl) ?_
  refine hK40 _ _ ?_
  clear hK40
  refine W.seq fun K47 hK47 => ?_
  refine W.seq fun K48 hK48 => ?_
  refine W.region ?_
  refine ops_run 1 (by kernel_rfl) ?_
  refine ops_R (runs_load (ad := ⟨b43, 0, none⟩) (v := (.int .u8 5)) (by kernel_rfl) (hs46.cellAt 0 rfl rfl)) ?_
  refine ops_run 2 (by kernel_rfl) ?_
  refine ops_done (by kernel_rfl) ?_
  refine hK48 _ _ ?_
  clear hK48
  refine W.cond_true true (by kernel_rfl) rfl ?_
  refine W.seq fun K49 hK49 => ?_
  refine W.region ?_
  refine ops_run 2 (by kernel_rfl) ?_
  refine ops_R (runs_load (ad := ⟨b43, 1, none⟩) (v := (.int .i64 208)) (by kernel_rfl) (hs46.cellAt 0 rfl rfl)) ?_
  refine ops_run 1 (by kernel_rfl) ?_
  refine ops_R (runs_load (ad := ⟨b43, 2, none⟩) (v := (.int .i64 gw)) (by kernel_rfl) (hs46.cellAt 0 rfl rfl)) ?_
  refine ops_val (v := .int .i64 (IntKind.i64.wrap (208 * gw))) (v' := .int .i64 (208 * gw)) (by kernel_rfl) (congrArg (Value.int .i64) (wrap_i64 (by omega) (by omega))) ?_
  refine ops_val (v := .int .i64 (IntKind.i64.wrap (264 + (208 * gw)))) (v' := .int .i64 (264 + (208 * gw))) (by kernel_rfl) (congrArg (Value.int .i64) (wrap_i64 (by omega) (by omega))) ?_
  refine ops_run 1 (by kernel_rfl) ?_
  refine ops_done (by kernel_rfl) ?_
  refine hK49 _ _ ?_
  clear hK49
  refine W.exit (exit_seq (exit_here ?_))
  refine hK39 _ _ ?_
  clear hK39
  refine W.region ?_
  refine ops_run 2 (by kernel_rfl) ?_
  refine ops_done (by kernel_rfl) ?_
  refine loopAt_next ?_
  refine loopAt_round ?_
  refine W.seq fun K50 hK50 => ?_
  refine W.region ?_
  refine ops_run 1 (by kernel_rfl) ?_
  refine ops_done (by kernel_rfl) ?_
  refine hK50 _ _ ?_
  clear hK50
  refine W.seq fun K51 hK51 => ?_
  refine W.cond_true true (by kernel_rfl) rfl ?_
  refine W.skip ?_
  refine hK51 _ _ ?_
  clear hK51
  refine W.seq fun K52 hK52 => ?_
  refine W.block ?_
  refine W.seq fun K53 hK53 => ?_
  refine W.region ?_
  refine ops_run 1 (by kernel_rfl) ?_
  refine ops_new (fun b => .pointer (some ⟨b, 0, none⟩)) (.cells [(.int .u8 0), (.int .i64 0), (.int .i64 0)].toArray 196 (0, 0)) hs46 (by kernel_rfl) (fun b56 w54 hs55 => ?_)
  refine ops_store (off := 0) (cs := [(.int .u8 0), (.int .i64 0), (.int .i64 0)]) (vs := [(.int .u8 6), (.int .i64 8), (.int .i64 1)]) hs55 (by kernel_rfl) (by simp) rfl (fun w57 hs58 => ?_)
  have hs59 : St B w [] w57 [blk b56 (.cells [(.int .u8 6), (.int .i64 8), (.int .i64 1)].toArray 196 (0, 0)), blk b43 (.cells [(.int .u8 5), (.int .i64 208), (.int .i64 gw)].toArray 196 (0, 0)), blk b30 (.cells [(.int .u8 2), (.int .i64 64), (.int .i64 4)].toArray 196 (0, 0)), blk b17 (.cells [(.int .u8 1), (.int .i64 8), (.int .i64 1)].toArray 196 (0, 0)), blk b4 (.cells [(.int .i64 gw), (.int .i64 gi), (.int .i64 gb)].toArray 63 (0, 0))] := hs58
  refine ops_done (by kernel_rfl) ?_
  refine hK53 _ _ ?_
  clear hK53
  refine W.seq fun K60 hK60 => ?_
  refine W.seq fun K61 hK61 => ?_
  refine W.region ?_
  refine ops_run 1 (by kernel_rfl) ?_
  refine ops_R (runs_load (ad := ⟨b56, 0, none⟩) (v := (.int .u8 6)) (by kernel_rfl) (hs59.cellAt 0 rfl rfl)) ?_
  refine ops_run 2 (by kernel_rfl) ?_
  refine ops_done (by kernel_rfl) ?_
  refine hK61 _ _ ?_
  clear hK61
  refine W.cond_true true (by kernel_rfl) rfl ?_
  refine W.seq fun K62 hK62 => ?_
  refine W.region ?_
  refine ops_run 2 (by kernel_rfl) ?_
  refine ops_R (runs_load (ad := ⟨b56, 1, none⟩) (v := (.int .i64 8)) (by kernel_rfl) (hs59.cellAt 0 rfl rfl)) ?_
  refine ops_run 1 (by kernel_rfl) ?_
  refine ops_R (runs_load (ad := ⟨b56, 2, none⟩) (v := (.int .i64 1)) (by kernel_rfl) (hs59.cellAt 0 rfl rfl)) ?_
  refine ops_run 1 (by kernel_rfl) ?_
  refine ops_val (v := .int .i64 (IntKind.i64.wrap ((264 + (208 * gw)) + 8))) (v' := .int .i64 ((264 + (208 * gw)) + 8)) (by kernel_rfl) (congrArg (Value.int .i64) (wrap_i64 (by omega) (by omega))) ?_
  refine ops_run 1 (by kernel_rfl) ?_
  refine ops_done (by kernel_rfl) ?_
  refine hK62 _ _ ?_
  clear hK62
  refine W.exit (exit_seq (exit_here ?_))
  refine hK52 _ _ ?_
  clear hK52
  refine W.region ?_
  refine ops_run 2 (by kernel_rfl) ?_
  refine ops_done (by kernel_rfl) ?_
  refine loopAt_next ?_
  refine loopAt_round ?_
  refine W.seq fun K63 hK63 => ?_
  refine W.region ?_
  refine ops_run 1 (by kernel_rfl) ?_
  refine ops_done (by kernel_rfl) ?_
  refine hK63 _ _ ?_
  clear hK63
  refine W.seq fun K64 hK64 => ?_
  refine W.cond_true true (by kernel_rfl) rfl ?_
  refine W.skip ?_
  refine hK64 _ _ ?_
  clear hK64
  refine W.seq fun K65 hK65 => ?_
  refine W.block ?_
  refine W.seq fun K66 hK66 => ?_
  refine W.region ?_
  refine ops_run 1 (by kernel_rfl) ?_
  refine ops_new (fun b => .pointer (some ⟨b, 0, none⟩)) (.cells [(.int .u8 0), (.int .i64 0), (.int .i64 0)].toArray 196 (0, 0)) hs59 (by kernel_rfl) (fun b69 w67 hs68 => ?_)
  refine ops_store (off := 0) (cs := [(.int .u8 0), (.int .i64 0), (.int .i64 0)]) (vs := [(.int .u8 7), (.int .i64 8), (.int .i64 1)]) hs68 (by kernel_rfl) (by simp) rfl (fun w70 hs71 => ?_)
  have hs72 : St B w [] w70 [blk b69 (.cells [(.int .u8 7), (.int .i64 8), (.int .i64 1)].toArray 196 (0, 0)), blk b56 (.cells [(.int .u8 6), (.int .i64 8), (.int .i64 1)].toArray 196 (0, 0)), blk b43 (.cells [(.int .u8 5), (.int .i64 208), (.int .i64 gw)].toArray 196 (0, 0)), blk b30 (.cells [(.int .u8 2), (.int .i64 64), (.int .i64 4)].toArray 196 (0, 0)), blk b17 (.cells [(.int .u8 1), (.int .i64 8), (.int .i64 1)].toArray 196 (0, 0)), blk b4 (.cells [(.int .i64 gw), (.int .i64 gi), (.int .i64 gb)].toArray 63 (0, 0))] := hs71
  refine ops_done (by kernel_rfl) ?_
  refine hK66 _ _ ?_
  clear hK66
  refine W.seq fun K73 hK73 => ?_
  refine W.seq fun K74 hK74 => ?_
  refine W.region ?_
  refine ops_run 1 (by kernel_rfl) ?_
  refine ops_R (runs_load (ad := ⟨b69, 0, none⟩) (v := (.int .u8 7)) (by kernel_rfl) (hs72.cellAt 0 rfl rfl)) ?_
  refine ops_run 2 (by kernel_rfl) ?_
  refine ops_done (by kernel_rfl) ?_
  refine hK74 _ _ ?_
  clear hK74
  refine W.cond_true true (by kernel_rfl) rfl ?_
  refine W.seq fun K75 hK75 => ?_
  refine W.region ?_
  refine ops_run 2 (by kernel_rfl) ?_
  refine ops_R (runs_load (ad := ⟨b69, 1, none⟩) (v := (.int .i64 8)) (by kernel_rfl) (hs72.cellAt 0 rfl rfl)) ?_
  refine ops_run 1 (by kernel_rfl) ?_
  refine ops_R (runs_load (ad := ⟨b69, 2, none⟩) (v := (.int .i64 1)) (by kernel_rfl) (hs72.cellAt 0 rfl rfl)) ?_
  refine ops_run 1 (by kernel_rfl) ?_
  refine ops_val (v := .int .i64 (IntKind.i64.wrap (((264 + (208 * gw)) + 8) + 8))) (v' := .int .i64 (((264 + (208 * gw)) + 8) + 8)) (by kernel_rfl) (congrArg (Value.int .i64) (wrap_i64 (by omega) (by omega))) ?_
  refine ops_run 1 (by kernel_rfl) ?_
  refine ops_done (by kernel_rfl) ?_
  refine hK75 _ _ ?_
  clear hK75
  refine W.exit (exit_seq (exit_here ?_))
  refine hK65 _ _ ?_
  clear hK65
  refine W.region ?_
  refine ops_run 2 (by kernel_rfl) ?_
  refine ops_done (by kernel_rfl) ?_
  refine loopAt_next ?_
  refine loopAt_round ?_
  refine W.seq fun K76 hK76 => ?_
  refine W.region ?_
  refine ops_run 1 (by kernel_rfl) ?_
  refine ops_done (by kernel_rfl) ?_
  refine hK76 _ _ ?_
  clear hK76
  refine W.seq fun K77 hK77 => ?_
  refine W.cond_true true (by kernel_rfl) rfl ?_
  refine W.skip ?_
  refine hK77 _ _ ?_
  clear hK77
  refine W.seq fun K78 hK78 => ?_
  refine W.block ?_
  refine W.seq fun K79 hK79 => ?_
  refine W.region ?_
  refine ops_run 1 (by kernel_rfl) ?_
  refine ops_new (fun b => .pointer (some ⟨b, 0, none⟩)) (.cells [(.int .u8 0), (.int .i64 0), (.int .i64 0)].toArray 196 (0, 0)) hs72 (by kernel_rfl) (fun b82 w80 hs81 => ?_)
  refine ops_store (off := 0) (cs := [(.int .u8 0), (.int .i64 0), (.int .i64 0)]) (vs := [(.int .u8 8), (.int .i64 16), (.int .i64 gi)]) hs81 (by kernel_rfl) (by simp) rfl (fun w83 hs84 => ?_)
  have hs85 : St B w [] w83 [blk b82 (.cells [(.int .u8 8), (.int .i64 16), (.int .i64 gi)].toArray 196 (0, 0)), blk b69 (.cells [(.int .u8 7), (.int .i64 8), (.int .i64 1)].toArray 196 (0, 0)), blk b56 (.cells [(.int .u8 6), (.int .i64 8), (.int .i64 1)].toArray 196 (0, 0)), blk b43 (.cells [(.int .u8 5), (.int .i64 208), (.int .i64 gw)].toArray 196 (0, 0)), blk b30 (.cells [(.int .u8 2), (.int .i64 64), (.int .i64 4)].toArray 196 (0, 0)), blk b17 (.cells [(.int .u8 1), (.int .i64 8), (.int .i64 1)].toArray 196 (0, 0)), blk b4 (.cells [(.int .i64 gw), (.int .i64 gi), (.int .i64 gb)].toArray 63 (0, 0))] := hs84
  refine ops_done (by kernel_rfl) ?_
  refine hK79 _ _ ?_
  clear hK79
  refine W.seq fun K86 hK86 => ?_
  refine W.seq fun K87 hK87 => ?_
  refine W.region ?_
  refine ops_run 1 (by kernel_rfl) ?_
  refine ops_R (runs_load (ad := ⟨b82, 0, none⟩) (v := (.int .u8 8)) (by kernel_rfl) (hs85.cellAt 0 rfl rfl)) ?_
  refine ops_run 2 (by kernel_rfl) ?_
  refine ops_done (by kernel_rfl) ?_
  refine hK87 _ _ ?_
  clear hK87
  refine W.cond_false false (by kernel_rfl) rfl ?_
  refine W.skip ?_
  refine hK86 _ _ ?_
  clear hK86
  refine W.seq fun K88 hK88 => ?_
  refine W.seq fun K89 hK89 => ?_
  refine W.region ?_
  refine ops_R (runs_loadAgg (ad := ⟨b4, 0, none⟩) (cs := [(.int .i64 gw), (.int .i64 gi), (.int .i64 gb)]) (by kernel_rfl) (cells_sub (hs85.heapAt 6 rfl) rfl)) ?_
  refine ops_call0 hs85 (by kernel_rfl) (may_spec (gw := gw) (gi := gi) (gb := gb) B _) ?_
  rintro _ _ w90 ⟨rfl, rfl⟩ hs91
  have hs92 := St.ap0 hs91
  refine ops_run 1 (by kernel_rfl) ?_
  rcases Bool.eq_false_or_eq_true (decide (May gw gi gb)) with h93 | h93
  ·
    have h93p : May gw gi gb := of_decide_eq_true h93
    refine ops_set 28 (v := .bool true) (eq_bool_of (by kernel_rfl) h93) ?_
    refine ops_set 27 (v := .bool true) (eq_bool_of (by kernel_rfl) h93) ?_
    refine ops_run 2 (by kernel_rfl) ?_
    refine ops_R (runs_load (ad := ⟨b82, 2, none⟩) (v := (.int .i64 gi)) (by kernel_rfl) (hs92.cellAt 0 rfl rfl)) ?_
    refine ops_val (v := .int .i64 (IntKind.i64.wrap (gi - 1))) (v' := .int .i64 (gi - 1)) (by kernel_rfl) (congrArg (Value.int .i64) (wrap_i64 (by omega) (by omega))) ?_
    refine ops_call0 hs92 (by kernel_rfl) (within_spec (n_ := n_) (f_ := 0) (t_ := (gi - 1)) B _) ?_
    rintro _ _ w94 ⟨rfl, rfl⟩ hs95
    have hs96 := St.ap0 hs95
    refine ops_run 1 (by kernel_rfl) ?_
    refine ops_done (by kernel_rfl) ?_
    refine hK89 _ _ ?_
    clear hK89
    refine W.cond (decide (0 ≤ n_ ∧ n_ ≤ (gi - 1))) (by kernel_rfl) (fun h97 => ?_) (fun h97 => ?_)
    ·
      have h97p : 0 ≤ n_ ∧ n_ ≤ (gi - 1) := of_decide_eq_true h97
      refine W.seq fun K98 hK98 => ?_
      refine W.region ?_
      refine ops_run 2 (by kernel_rfl) ?_
      refine ops_R (runs_load (ad := ⟨b82, 1, none⟩) (v := (.int .i64 16)) (by kernel_rfl) (hs96.cellAt 0 rfl rfl)) ?_
      refine ops_run 1 (by kernel_rfl) ?_
      refine ops_val (v := .int .i64 (IntKind.i64.wrap (16 * n_))) (v' := .int .i64 (16 * n_)) (by kernel_rfl) (congrArg (Value.int .i64) (wrap_i64 (by omega) (by omega))) ?_
      refine ops_val (v := .int .i64 (IntKind.i64.wrap ((((264 + (208 * gw)) + 8) + 8) + (16 * n_)))) (v' := .int .i64 ((((264 + (208 * gw)) + 8) + 8) + (16 * n_))) (by kernel_rfl) (congrArg (Value.int .i64) (wrap_i64 (by omega) (by omega))) ?_
      refine ops_run 1 (by kernel_rfl) ?_
      refine ops_done (by kernel_rfl) ?_
      refine hK98 _ _ ?_
      clear hK98
      refine W.ret (ret_seq (ret_block (ret_seq (ret_seq (ret_block (ret_seq ?_))))))
      have hs99 := St.tk0 hs96
      refine ret_of (.int .i64 ((((264 + (208 * gw)) + 8) + 8) + (16 * n_))) (by kernel_rfl) ⟨_, ⟨congrArg (Value.int .i64) (by first | contradiction | (simp only [placeOf, if_pos hm]; split <;> omega) | (simp only [placeOf, if_neg hm]; done) | (simp only [placeOf, if_pos hm]; omega)), rfl⟩, hs99⟩
    ·
      have h97p : ¬ (0 ≤ n_ ∧ n_ ≤ (gi - 1)) := of_decide_eq_false h97
      refine W.skip ?_
      refine hK88 _ _ ?_
      clear hK88
      refine W.exit (exit_block (by decide) (exit_seq (exit_seq (exit_here ?_))))
      refine hK6 _ _ ?_
      clear hK6
      refine W.seq fun K100 hK100 => ?_
      refine W.region ?_
      refine ops_run 1 (by kernel_rfl) ?_
      refine ops_done (by kernel_rfl) ?_
      refine hK100 _ _ ?_
      clear hK100
      refine W.ret ?_
      have hs101 := St.tk0 hs96
      refine ret_of (.int .i64 (-1)) (by kernel_rfl) ⟨_, ⟨congrArg (Value.int .i64) (by first | contradiction | (simp only [placeOf, if_pos hm]; split <;> omega) | (simp only [placeOf, if_neg hm]; done) | (simp only [placeOf, if_pos hm]; omega)), rfl⟩, hs101⟩
  ·
    have h93p : ¬ (May gw gi gb) := of_decide_eq_false h93
    refine ops_set 28 (v := .bool false) (eq_bool_of (by kernel_rfl) h93) ?_
    refine ops_set 27 (v := .bool false) (eq_bool_of (by kernel_rfl) h93) ?_
    refine ops_run 6 (by kernel_rfl) ?_
    refine ops_done (by kernel_rfl) ?_
    refine hK89 _ _ ?_
    clear hK89
    refine W.cond_false false (by kernel_rfl) rfl ?_
    refine W.skip ?_
    refine hK88 _ _ ?_
    clear hK88
    refine W.exit (exit_block (by decide) (exit_seq (exit_seq (exit_here ?_))))
    refine hK6 _ _ ?_
    clear hK6
    refine W.seq fun K102 hK102 => ?_
    refine W.region ?_
    refine ops_run 1 (by kernel_rfl) ?_
    refine ops_done (by kernel_rfl) ?_
    refine hK102 _ _ ?_
    clear hK102
    refine W.ret ?_
    have hs103 := St.tk0 hs92
    refine ret_of (.int .i64 (-1)) (by kernel_rfl) ⟨_, ⟨congrArg (Value.int .i64) (by first | contradiction | (simp only [placeOf, if_pos hm]; split <;> omega) | (simp only [placeOf, if_neg hm]; done) | (simp only [placeOf, if_pos hm]; omega)), rfl⟩, hs103⟩

set_option maxRecDepth 20000 in
theorem place8_not {gw gi gb n_ : Int} (B : Nat) (w : World) (hm : ¬ May gw gi gb) : Spec Tryd.prog 134 #[(.agg #[(.int .i64 gw), (.int .i64 gi), (.int .i64 gb)]), (.int .u8 8), (.int .i64 n_)] B w [] (fun v H' => v = .int .i64 (placeOf 8 gw gi gb n_) ∧ H' = []) := by
  refine spec_Q Tryd.func134 rfl fun hs => ?_
  refine W.seq fun K1 hK1 => ?_
  refine W.region ?_
  refine ops_new (fun b => .pointer (some ⟨b, 0, none⟩)) (.cells [(.int .i64 gw), (.int .i64 gi), (.int .i64 gb)].toArray 63 (0, 0)) hs (by kernel_rfl) (fun b4 w2 hs3 => ?_)
  refine ops_run 1 (by kernel_rfl) ?_
  refine ops_done (by kernel_rfl) ?_
  refine hK1 _ _ ?_
  clear hK1
  refine W.seq fun K5 hK5 => ?_
  refine W.region ?_
  refine ops_run 1 (by kernel_rfl) ?_
  refine ops_done (by kernel_rfl) ?_
  refine hK5 _ _ ?_
  clear hK5
  refine W.seq fun K6 hK6 => ?_
  refine W.seq fun K7 hK7 => ?_
  refine W.region ?_
  refine ops_R (runs_loadAgg (ad := ⟨b4, 0, none⟩) (cs := [(.int .i64 gw), (.int .i64 gi), (.int .i64 gb)]) (by kernel_rfl) (cells_sub (hs3.heapAt 0 rfl) rfl)) ?_
  refine ops_call0 hs3 (by kernel_rfl) (rows_spec (gw := gw) (gi := gi) (gb := gb) B _) ?_
  rintro _ _ w8 ⟨rfl, rfl⟩ hs9
  have hs10 := St.ap0 hs9
  refine ops_run 1 (by kernel_rfl) ?_
  refine ops_done (by kernel_rfl) ?_
  refine hK7 _ _ ?_
  clear hK7
  refine W.block ?_
  refine W.loop_start ?_
  refine loopAt_round ?_
  refine W.seq fun K11 hK11 => ?_
  refine W.region ?_
  refine ops_run 1 (by kernel_rfl) ?_
  refine ops_done (by kernel_rfl) ?_
  refine hK11 _ _ ?_
  clear hK11
  refine W.seq fun K12 hK12 => ?_
  refine W.cond_true true (by kernel_rfl) rfl ?_
  refine W.skip ?_
  refine hK12 _ _ ?_
  clear hK12
  refine W.seq fun K13 hK13 => ?_
  refine W.block ?_
  refine W.seq fun K14 hK14 => ?_
  refine W.region ?_
  refine ops_run 1 (by kernel_rfl) ?_
  refine ops_new (fun b => .pointer (some ⟨b, 0, none⟩)) (.cells [(.int .u8 0), (.int .i64 0), (.int .i64 0)].toArray 196 (0, 0)) hs10 (by kernel_rfl) (fun b17 w15 hs16 => ?_)
  refine ops_store (off := 0) (cs := [(.int .u8 0), (.int .i64 0), (.int .i64 0)]) (vs := [(.int .u8 1), (.int .i64 8), (.int .i64 1)]) hs16 (by kernel_rfl) (by simp) rfl (fun w18 hs19 => ?_)
  have hs20 : St B w [] w18 [blk b17 (.cells [(.int .u8 1), (.int .i64 8), (.int .i64 1)].toArray 196 (0, 0)), blk b4 (.cells [(.int .i64 gw), (.int .i64 gi), (.int .i64 gb)].toArray 63 (0, 0))] := hs19
  refine ops_done (by kernel_rfl) ?_
  refine hK14 _ _ ?_
  clear hK14
  refine W.seq fun K21 hK21 => ?_
  refine W.seq fun K22 hK22 => ?_
  refine W.region ?_
  refine ops_run 1 (by kernel_rfl) ?_
  refine ops_R (runs_load (ad := ⟨b17, 0, none⟩) (v := (.int .u8 1)) (by kernel_rfl) (hs20.cellAt 0 rfl rfl)) ?_
  refine ops_run 2 (by kernel_rfl) ?_
  refine ops_done (by kernel_rfl) ?_
  refine hK22 _ _ ?_
  clear hK22
  refine W.cond_true true (by kernel_rfl) rfl ?_
  refine W.seq fun K23 hK23 => ?_
  refine W.region ?_
  refine ops_run 2 (by kernel_rfl) ?_
  refine ops_R (runs_load (ad := ⟨b17, 1, none⟩) (v := (.int .i64 8)) (by kernel_rfl) (hs20.cellAt 0 rfl rfl)) ?_
  refine ops_run 1 (by kernel_rfl) ?_
  refine ops_R (runs_load (ad := ⟨b17, 2, none⟩) (v := (.int .i64 1)) (by kernel_rfl) (hs20.cellAt 0 rfl rfl)) ?_
  refine ops_run 3 (by kernel_rfl) ?_
  refine ops_done (by kernel_rfl) ?_
  refine hK23 _ _ ?_
  clear hK23
  refine W.exit (exit_seq (exit_here ?_))
  refine hK13 _ _ ?_
  clear hK13
  refine W.region ?_
  refine ops_run 2 (by kernel_rfl) ?_
  refine ops_done (by kernel_rfl) ?_
  refine loopAt_next ?_
  refine loopAt_round ?_
  refine W.seq fun K24 hK24 => ?_
  refine W.region ?_
  refine ops_run 1 (by kernel_rfl) ?_
  refine ops_done (by kernel_rfl) ?_
  refine hK24 _ _ ?_
  clear hK24
  refine W.seq fun K25 hK25 => ?_
  refine W.cond_true true (by kernel_rfl) rfl ?_
  refine W.skip ?_
  refine hK25 _ _ ?_
  clear hK25
  refine W.seq fun K26 hK26 => ?_
  refine W.block ?_
  refine W.seq fun K27 hK27 => ?_
  refine W.region ?_
  refine ops_run 1 (by kernel_rfl) ?_
  refine ops_new (fun b => .pointer (some ⟨b, 0, none⟩)) (.cells [(.int .u8 0), (.int .i64 0), (.int .i64 0)].toArray 196 (0, 0)) hs20 (by kernel_rfl) (fun b30 w28 hs29 => ?_)
  refine ops_store (off := 0) (cs := [(.int .u8 0), (.int .i64 0), (.int .i64 0)]) (vs := [(.int .u8 2), (.int .i64 64), (.int .i64 4)]) hs29 (by kernel_rfl) (by simp) rfl (fun w31 hs32 => ?_)
  have hs33 : St B w [] w31 [blk b30 (.cells [(.int .u8 2), (.int .i64 64), (.int .i64 4)].toArray 196 (0, 0)), blk b17 (.cells [(.int .u8 1), (.int .i64 8), (.int .i64 1)].toArray 196 (0, 0)), blk b4 (.cells [(.int .i64 gw), (.int .i64 gi), (.int .i64 gb)].toArray 63 (0, 0))] := hs32
  refine ops_done (by kernel_rfl) ?_
  refine hK27 _ _ ?_
  clear hK27
  refine W.seq fun K34 hK34 => ?_
  refine W.seq fun K35 hK35 => ?_
  refine W.region ?_
  refine ops_run 1 (by kernel_rfl) ?_
  refine ops_R (runs_load (ad := ⟨b30, 0, none⟩) (v := (.int .u8 2)) (by kernel_rfl) (hs33.cellAt 0 rfl rfl)) ?_
  refine ops_run 2 (by kernel_rfl) ?_
  refine ops_done (by kernel_rfl) ?_
  refine hK35 _ _ ?_
  clear hK35
  refine W.cond_true true (by kernel_rfl) rfl ?_
  refine W.seq fun K36 hK36 => ?_
  refine W.region ?_
  refine ops_run 2 (by kernel_rfl) ?_
  refine ops_R (runs_load (ad := ⟨b30, 1, none⟩) (v := (.int .i64 64)) (by kernel_rfl) (hs33.cellAt 0 rfl rfl)) ?_
  refine ops_run 1 (by kernel_rfl) ?_
  refine ops_R (runs_load (ad := ⟨b30, 2, none⟩) (v := (.int .i64 4)) (by kernel_rfl) (hs33.cellAt 0 rfl rfl)) ?_
  refine ops_run 3 (by kernel_rfl) ?_
  refine ops_done (by kernel_rfl) ?_
  refine hK36 _ _ ?_
  clear hK36
  refine W.exit (exit_seq (exit_here ?_))
  refine hK26 _ _ ?_
  clear hK26
  refine W.region ?_
  refine ops_run 2 (by kernel_rfl) ?_
  refine ops_done (by kernel_rfl) ?_
  refine loopAt_next ?_
  refine loopAt_round ?_
  refine W.seq fun K37 hK37 => ?_
  refine W.region ?_
  refine ops_run 1 (by kernel_rfl) ?_
  refine ops_done (by kernel_rfl) ?_
  refine hK37 _ _ ?_
  clear hK37
  refine W.seq fun K38 hK38 => ?_
  refine W.cond_true true (by kernel_rfl) rfl ?_
  refine W.skip ?_
  refine hK38 _ _ ?_
  clear hK38
  refine W.seq fun K39 hK39 => ?_
  refine W.block ?_
  refine W.seq fun K40 hK40 => ?_
  refine W.region ?_
  refine ops_run 1 (by kernel_rfl) ?_
  refine ops_new (fun b => .pointer (some ⟨b, 0, none⟩)) (.cells [(.int .u8 0), (.int .i64 0), (.int .i64 0)].toArray 196 (0, 0)) hs33 (by kernel_rfl) (fun b43 w41 hs42 => ?_)
  refine ops_store (off := 0) (cs := [(.int .u8 0), (.int .i64 0), (.int .i64 0)]) (vs := [(.int .u8 5), (.int .i64 208), (.int .i64 gw)]) hs42 (by kernel_rfl) (by simp) rfl (fun w44 hs45 => ?_)
  have hs46 : St B w [] w44 [blk b43 (.cells [(.int .u8 5), (.int .i64 208), (.int .i64 gw)].toArray 196 (0, 0)), blk b30 (.cells [(.int .u8 2), (.int .i64 64), (.int .i64 4)].toArray 196 (0, 0)), blk b17 (.cells [(.int .u8 1), (.int .i64 8), (.int .i64 1)].toArray 196 (0, 0)), blk b4 (.cells [(.int .i64 gw), (.int .i64 gi), (.int .i64 gb)].toArray 63 (0, 0))] := hs45
  refine ops_done (by kernel_rfl) ?_
  refine hK40 _ _ ?_
  clear hK40
  refine W.seq fun K47 hK47 => ?_
  refine W.seq fun K48 hK48 => ?_
  refine W.region ?_
  refine ops_run 1 (by kernel_rfl) ?_
  refine ops_R (runs_load (ad := ⟨b43, 0, none⟩) (v := (.int .u8 5)) (by kernel_rfl) (hs46.cellAt 0 rfl rfl)) ?_
  refine ops_run 2 (by kernel_rfl) ?_
  refine ops_done (by kernel_rfl) ?_
  refine hK48 _ _ ?_
  clear hK48
  refine W.cond_true true (by kernel_rfl) rfl ?_
  refine W.seq fun K49 hK49 => ?_
  refine W.region ?_
  refine ops_run 2 (by kernel_rfl) ?_
  refine ops_R (runs_load (ad := ⟨b43, 1, none⟩) (v := (.int .i64 208)) (by kernel_rfl) (hs46.cellAt 0 rfl rfl)) ?_
  refine ops_run 1 (by kernel_rfl) ?_
  refine ops_R (runs_load (ad := ⟨b43, 2, none⟩) (v := (.int .i64 gw)) (by kernel_rfl) (hs46.cellAt 0 rfl rfl)) ?_
  refine ops_val (v := .int .i64 (IntKind.i64.wrap (208 * gw))) (v' := .int .i64 (IntKind.i64.wrap (208 * gw))) (by kernel_rfl) rfl ?_
  refine ops_val (v := .int .i64 (IntKind.i64.wrap (264 + (IntKind.i64.wrap (208 * gw))))) (v' := .int .i64 (IntKind.i64.wrap (264 + (IntKind.i64.wrap (208 * gw))))) (by kernel_rfl) rfl ?_
  refine ops_run 1 (by kernel_rfl) ?_
  refine ops_done (by kernel_rfl) ?_
  refine hK49 _ _ ?_
  clear hK49
  refine W.exit (exit_seq (exit_here ?_))
  refine hK39 _ _ ?_
  clear hK39
  refine W.region ?_
  refine ops_run 2 (by kernel_rfl) ?_
  refine ops_done (by kernel_rfl) ?_
  refine loopAt_next ?_
  refine loopAt_round ?_
  refine W.seq fun K50 hK50 => ?_
  refine W.region ?_
  refine ops_run 1 (by kernel_rfl) ?_
  refine ops_done (by kernel_rfl) ?_
  refine hK50 _ _ ?_
  clear hK50
  refine W.seq fun K51 hK51 => ?_
  refine W.cond_true true (by kernel_rfl) rfl ?_
  refine W.skip ?_
  refine hK51 _ _ ?_
  clear hK51
  refine W.seq fun K52 hK52 => ?_
  refine W.block ?_
  refine W.seq fun K53 hK53 => ?_
  refine W.region ?_
  refine ops_run 1 (by kernel_rfl) ?_
  refine ops_new (fun b => .pointer (some ⟨b, 0, none⟩)) (.cells [(.int .u8 0), (.int .i64 0), (.int .i64 0)].toArray 196 (0, 0)) hs46 (by kernel_rfl) (fun b56 w54 hs55 => ?_)
  refine ops_store (off := 0) (cs := [(.int .u8 0), (.int .i64 0), (.int .i64 0)]) (vs := [(.int .u8 6), (.int .i64 8), (.int .i64 1)]) hs55 (by kernel_rfl) (by simp) rfl (fun w57 hs58 => ?_)
  have hs59 : St B w [] w57 [blk b56 (.cells [(.int .u8 6), (.int .i64 8), (.int .i64 1)].toArray 196 (0, 0)), blk b43 (.cells [(.int .u8 5), (.int .i64 208), (.int .i64 gw)].toArray 196 (0, 0)), blk b30 (.cells [(.int .u8 2), (.int .i64 64), (.int .i64 4)].toArray 196 (0, 0)), blk b17 (.cells [(.int .u8 1), (.int .i64 8), (.int .i64 1)].toArray 196 (0, 0)), blk b4 (.cells [(.int .i64 gw), (.int .i64 gi), (.int .i64 gb)].toArray 63 (0, 0))] := hs58
  refine ops_done (by kernel_rfl) ?_
  refine hK53 _ _ ?_
  clear hK53
  refine W.seq fun K60 hK60 => ?_
  refine W.seq fun K61 hK61 => ?_
  refine W.region ?_
  refine ops_run 1 (by kernel_rfl) ?_
  refine ops_R (runs_load (ad := ⟨b56, 0, none⟩) (v := (.int .u8 6)) (by kernel_rfl) (hs59.cellAt 0 rfl rfl)) ?_
  refine ops_run 2 (by kernel_rfl) ?_
  refine ops_done (by kernel_rfl) ?_
  refine hK61 _ _ ?_
  clear hK61
  refine W.cond_true true (by kernel_rfl) rfl ?_
  refine W.seq fun K62 hK62 => ?_
  refine W.region ?_
  refine ops_run 2 (by kernel_rfl) ?_
  refine ops_R (runs_load (ad := ⟨b56, 1, none⟩) (v := (.int .i64 8)) (by kernel_rfl) (hs59.cellAt 0 rfl rfl)) ?_
  refine ops_run 1 (by kernel_rfl) ?_
  refine ops_R (runs_load (ad := ⟨b56, 2, none⟩) (v := (.int .i64 1)) (by kernel_rfl) (hs59.cellAt 0 rfl rfl)) ?_
  refine ops_run 1 (by kernel_rfl) ?_
  refine ops_val (v := .int .i64 (IntKind.i64.wrap ((IntKind.i64.wrap (264 + (IntKind.i64.wrap (208 * gw)))) + 8))) (v' := .int .i64 (IntKind.i64.wrap ((IntKind.i64.wrap (264 + (IntKind.i64.wrap (208 * gw)))) + 8))) (by kernel_rfl) rfl ?_
  refine ops_run 1 (by kernel_rfl) ?_
  refine ops_done (by kernel_rfl) ?_
  refine hK62 _ _ ?_
  clear hK62
  refine W.exit (exit_seq (exit_here ?_))
  refine hK52 _ _ ?_
  clear hK52
  refine W.region ?_
  refine ops_run 2 (by kernel_rfl) ?_
  refine ops_done (by kernel_rfl) ?_
  refine loopAt_next ?_
  refine loopAt_round ?_
  refine W.seq fun K63 hK63 => ?_
  refine W.region ?_
  refine ops_run 1 (by kernel_rfl) ?_
  refine ops_done (by kernel_rfl) ?_
  refine hK63 _ _ ?_
  clear hK63
  refine W.seq fun K64 hK64 => ?_
  refine W.cond_true true (by kernel_rfl) rfl ?_
  refine W.skip ?_
  refine hK64 _ _ ?_
  clear hK64
  refine W.seq fun K65 hK65 => ?_
  refine W.block ?_
  refine W.seq fun K66 hK66 => ?_
  refine W.region ?_
  refine ops_run 1 (by kernel_rfl) ?_
  refine ops_new (fun b => .pointer (some ⟨b, 0, none⟩)) (.cells [(.int .u8 0), (.int .i64 0), (.int .i64 0)].toArray 196 (0, 0)) hs59 (by kernel_rfl) (fun b69 w67 hs68 => ?_)
  refine ops_store (off := 0) (cs := [(.int .u8 0), (.int .i64 0), (.int .i64 0)]) (vs := [(.int .u8 7), (.int .i64 8), (.int .i64 1)]) hs68 (by kernel_rfl) (by simp) rfl (fun w70 hs71 => ?_)
  have hs72 : St B w [] w70 [blk b69 (.cells [(.int .u8 7), (.int .i64 8), (.int .i64 1)].toArray 196 (0, 0)), blk b56 (.cells [(.int .u8 6), (.int .i64 8), (.int .i64 1)].toArray 196 (0, 0)), blk b43 (.cells [(.int .u8 5), (.int .i64 208), (.int .i64 gw)].toArray 196 (0, 0)), blk b30 (.cells [(.int .u8 2), (.int .i64 64), (.int .i64 4)].toArray 196 (0, 0)), blk b17 (.cells [(.int .u8 1), (.int .i64 8), (.int .i64 1)].toArray 196 (0, 0)), blk b4 (.cells [(.int .i64 gw), (.int .i64 gi), (.int .i64 gb)].toArray 63 (0, 0))] := hs71
  refine ops_done (by kernel_rfl) ?_
  refine hK66 _ _ ?_
  clear hK66
  refine W.seq fun K73 hK73 => ?_
  refine W.seq fun K74 hK74 => ?_
  refine W.region ?_
  refine ops_run 1 (by kernel_rfl) ?_
  refine ops_R (runs_load (ad := ⟨b69, 0, none⟩) (v := (.int .u8 7)) (by kernel_rfl) (hs72.cellAt 0 rfl rfl)) ?_
  refine ops_run 2 (by kernel_rfl) ?_
  refine ops_done (by kernel_rfl) ?_
  refine hK74 _ _ ?_
  clear hK74
  refine W.cond_true true (by kernel_rfl) rfl ?_
  refine W.seq fun K75 hK75 => ?_
  refine W.region ?_
  refine ops_run 2 (by kernel_rfl) ?_
  refine ops_R (runs_load (ad := ⟨b69, 1, none⟩) (v := (.int .i64 8)) (by kernel_rfl) (hs72.cellAt 0 rfl rfl)) ?_
  refine ops_run 1 (by kernel_rfl) ?_
  refine ops_R (runs_load (ad := ⟨b69, 2, none⟩) (v := (.int .i64 1)) (by kernel_rfl) (hs72.cellAt 0 rfl rfl)) ?_
  refine ops_run 1 (by kernel_rfl) ?_
  refine ops_val (v := .int .i64 (IntKind.i64.wrap ((IntKind.i64.wrap ((IntKind.i64.wrap (264 + (IntKind.i64.wrap (208 * gw)))) + 8)) + 8))) (v' := .int .i64 (IntKind.i64.wrap ((IntKind.i64.wrap ((IntKind.i64.wrap (264 + (IntKind.i64.wrap (208 * gw)))) + 8)) + 8))) (by kernel_rfl) rfl ?_
  refine ops_run 1 (by kernel_rfl) ?_
  refine ops_done (by kernel_rfl) ?_
  refine hK75 _ _ ?_
  clear hK75
  refine W.exit (exit_seq (exit_here ?_))
  refine hK65 _ _ ?_
  clear hK65
  refine W.region ?_
  refine ops_run 2 (by kernel_rfl) ?_
  refine ops_done (by kernel_rfl) ?_
  refine loopAt_next ?_
  refine loopAt_round ?_
  refine W.seq fun K76 hK76 => ?_
  refine W.region ?_
  refine ops_run 1 (by kernel_rfl) ?_
  refine ops_done (by kernel_rfl) ?_
  refine hK76 _ _ ?_
  clear hK76
  refine W.seq fun K77 hK77 => ?_
  refine W.cond_true true (by kernel_rfl) rfl ?_
  refine W.skip ?_
  refine hK77 _ _ ?_
  clear hK77
  refine W.seq fun K78 hK78 => ?_
  refine W.block ?_
  refine W.seq fun K79 hK79 => ?_
  refine W.region ?_
  refine ops_run 1 (by kernel_rfl) ?_
  refine ops_new (fun b => .pointer (some ⟨b, 0, none⟩)) (.cells [(.int .u8 0), (.int .i64 0), (.int .i64 0)].toArray 196 (0, 0)) hs72 (by kernel_rfl) (fun b82 w80 hs81 => ?_)
  refine ops_store (off := 0) (cs := [(.int .u8 0), (.int .i64 0), (.int .i64 0)]) (vs := [(.int .u8 8), (.int .i64 16), (.int .i64 gi)]) hs81 (by kernel_rfl) (by simp) rfl (fun w83 hs84 => ?_)
  have hs85 : St B w [] w83 [blk b82 (.cells [(.int .u8 8), (.int .i64 16), (.int .i64 gi)].toArray 196 (0, 0)), blk b69 (.cells [(.int .u8 7), (.int .i64 8), (.int .i64 1)].toArray 196 (0, 0)), blk b56 (.cells [(.int .u8 6), (.int .i64 8), (.int .i64 1)].toArray 196 (0, 0)), blk b43 (.cells [(.int .u8 5), (.int .i64 208), (.int .i64 gw)].toArray 196 (0, 0)), blk b30 (.cells [(.int .u8 2), (.int .i64 64), (.int .i64 4)].toArray 196 (0, 0)), blk b17 (.cells [(.int .u8 1), (.int .i64 8), (.int .i64 1)].toArray 196 (0, 0)), blk b4 (.cells [(.int .i64 gw), (.int .i64 gi), (.int .i64 gb)].toArray 63 (0, 0))] := hs84
  refine ops_done (by kernel_rfl) ?_
  refine hK79 _ _ ?_
  clear hK79
  refine W.seq fun K86 hK86 => ?_
  refine W.seq fun K87 hK87 => ?_
  refine W.region ?_
  refine ops_run 1 (by kernel_rfl) ?_
  refine ops_R (runs_load (ad := ⟨b82, 0, none⟩) (v := (.int .u8 8)) (by kernel_rfl) (hs85.cellAt 0 rfl rfl)) ?_
  refine ops_run 2 (by kernel_rfl) ?_
  refine ops_done (by kernel_rfl) ?_
  refine hK87 _ _ ?_
  clear hK87
  refine W.cond_false false (by kernel_rfl) rfl ?_
  refine W.skip ?_
  refine hK86 _ _ ?_
  clear hK86
  refine W.seq fun K88 hK88 => ?_
  refine W.seq fun K89 hK89 => ?_
  refine W.region ?_
  refine ops_R (runs_loadAgg (ad := ⟨b4, 0, none⟩) (cs := [(.int .i64 gw), (.int .i64 gi), (.int .i64 gb)]) (by kernel_rfl) (cells_sub (hs85.heapAt 6 rfl) rfl)) ?_
  refine ops_call0 hs85 (by kernel_rfl) (may_spec (gw := gw) (gi := gi) (gb := gb) B _) ?_
  rintro _ _ w90 ⟨rfl, rfl⟩ hs91
  have hs92 := St.ap0 hs91
  refine ops_run 1 (by kernel_rfl) ?_
  rcases Bool.eq_false_or_eq_true (decide (May gw gi gb)) with h93 | h93
  ·
    have h93p : May gw gi gb := of_decide_eq_true h93
    refine ops_set 28 (v := .bool true) (eq_bool_of (by kernel_rfl) h93) ?_
    refine ops_set 27 (v := .bool true) (eq_bool_of (by kernel_rfl) h93) ?_
    refine ops_run 2 (by kernel_rfl) ?_
    refine ops_R (runs_load (ad := ⟨b82, 2, none⟩) (v := (.int .i64 gi)) (by kernel_rfl) (hs92.cellAt 0 rfl rfl)) ?_
    refine ops_val (v := .int .i64 (IntKind.i64.wrap (gi - 1))) (v' := .int .i64 (IntKind.i64.wrap (gi - 1))) (by kernel_rfl) rfl ?_
    refine ops_call0 hs92 (by kernel_rfl) (within_spec (n_ := n_) (f_ := 0) (t_ := (IntKind.i64.wrap (gi - 1))) B _) ?_
    rintro _ _ w94 ⟨rfl, rfl⟩ hs95
    have hs96 := St.ap0 hs95
    refine ops_run 1 (by kernel_rfl) ?_
    refine ops_done (by kernel_rfl) ?_
    refine hK89 _ _ ?_
    clear hK89
    refine W.cond (decide (0 ≤ n_ ∧ n_ ≤ (IntKind.i64.wrap (gi - 1)))) (by kernel_rfl) (fun h97 => ?_) (fun h97 => ?_)
    ·
      have h97p : 0 ≤ n_ ∧ n_ ≤ (IntKind.i64.wrap (gi - 1)) := of_decide_eq_true h97
      refine W.seq fun K98 hK98 => ?_
      refine W.region ?_
      refine ops_run 2 (by kernel_rfl) ?_
      refine ops_R (runs_load (ad := ⟨b82, 1, none⟩) (v := (.int .i64 16)) (by kernel_rfl) (hs96.cellAt 0 rfl rfl)) ?_
      refine ops_run 1 (by kernel_rfl) ?_
      refine ops_val (v := .int .i64 (IntKind.i64.wrap (16 * n_))) (v' := .int .i64 (IntKind.i64.wrap (16 * n_))) (by kernel_rfl) rfl ?_
      refine ops_val (v := .int .i64 (IntKind.i64.wrap ((IntKind.i64.wrap ((IntKind.i64.wrap ((IntKind.i64.wrap (264 + (IntKind.i64.wrap (208 * gw)))) + 8)) + 8)) + (IntKind.i64.wrap (16 * n_))))) (v' := .int .i64 (IntKind.i64.wrap ((IntKind.i64.wrap ((IntKind.i64.wrap ((IntKind.i64.wrap (264 + (IntKind.i64.wrap (208 * gw)))) + 8)) + 8)) + (IntKind.i64.wrap (16 * n_))))) (by kernel_rfl) rfl ?_
      refine ops_run 1 (by kernel_rfl) ?_
      refine ops_done (by kernel_rfl) ?_
      refine hK98 _ _ ?_
      clear hK98
      refine W.ret (ret_seq (ret_block (ret_seq (ret_seq (ret_block (ret_seq ?_))))))
      have hs99 := St.tk0 hs96
      refine ret_of (.int .i64 (IntKind.i64.wrap ((IntKind.i64.wrap ((IntKind.i64.wrap ((IntKind.i64.wrap (264 + (IntKind.i64.wrap (208 * gw)))) + 8)) + 8)) + (IntKind.i64.wrap (16 * n_))))) (by kernel_rfl) ⟨_, ⟨congrArg (Value.int .i64) (by first | contradiction | (simp only [placeOf, if_pos hm]; split <;> omega) | (simp only [placeOf, if_neg hm]; done) | (simp only [placeOf, if_pos hm]; omega)), rfl⟩, hs99⟩
    ·
      have h97p : ¬ (0 ≤ n_ ∧ n_ ≤ (IntKind.i64.wrap (gi - 1))) := of_decide_eq_false h97
      refine W.skip ?_
      refine hK88 _ _ ?_
      clear hK88
      refine W.exit (exit_block (by decide) (exit_seq (exit_seq (exit_here ?_))))
      refine hK6 _ _ ?_
      clear hK6
      refine W.seq fun K100 hK100 => ?_
      refine W.region ?_
      refine ops_run 1 (by kernel_rfl) ?_
      refine ops_done (by kernel_rfl) ?_
      refine hK100 _ _ ?_
      clear hK100
      refine W.ret ?_
      have hs101 := St.tk0 hs96
      refine ret_of (.int .i64 (-1)) (by kernel_rfl) ⟨_, ⟨congrArg (Value.int .i64) (by first | contradiction | (simp only [placeOf, if_pos hm]; split <;> omega) | (simp only [placeOf, if_neg hm]; done) | (simp only [placeOf, if_pos hm]; omega)), rfl⟩, hs101⟩
  ·
    have h93p : ¬ (May gw gi gb) := of_decide_eq_false h93
    refine ops_set 28 (v := .bool false) (eq_bool_of (by kernel_rfl) h93) ?_
    refine ops_set 27 (v := .bool false) (eq_bool_of (by kernel_rfl) h93) ?_
    refine ops_run 6 (by kernel_rfl) ?_
    refine ops_done (by kernel_rfl) ?_
    refine hK89 _ _ ?_
    clear hK89
    refine W.cond_false false (by kernel_rfl) rfl ?_
    refine W.skip ?_
    refine hK88 _ _ ?_
    clear hK88
    refine W.exit (exit_block (by decide) (exit_seq (exit_seq (exit_here ?_))))
    refine hK6 _ _ ?_
    clear hK6
    refine W.seq fun K102 hK102 => ?_
    refine W.region ?_
    refine ops_run 1 (by kernel_rfl) ?_
    refine ops_done (by kernel_rfl) ?_
    refine hK102 _ _ ?_
    clear hK102
    refine W.ret ?_
    have hs103 := St.tk0 hs92
    refine ret_of (.int .i64 (-1)) (by kernel_rfl) ⟨_, ⟨congrArg (Value.int .i64) (by first | contradiction | (simp only [placeOf, if_pos hm]; split <;> omega) | (simp only [placeOf, if_neg hm]; done) | (simp only [placeOf, if_pos hm]; omega)), rfl⟩, hs103⟩

theorem place8_spec {gw gi gb n_ : Int} (B : Nat) (w : World) : Spec Tryd.prog 134 #[(.agg #[(.int .i64 gw), (.int .i64 gi), (.int .i64 gb)]), (.int .u8 8), (.int .i64 n_)] B w [] (fun v H' => v = .int .i64 (placeOf 8 gw gi gb n_) ∧ H' = []) := by
  by_cases hm : May gw gi gb
  · exact place8_may B w hm
  · exact place8_not B w hm

set_option maxRecDepth 20000 in
theorem place9_may {gw gi gb n_ : Int} (B : Nat) (w : World) (hm : May gw gi gb) : Spec Tryd.prog 134 #[(.agg #[(.int .i64 gw), (.int .i64 gi), (.int .i64 gb)]), (.int .u8 9), (.int .i64 n_)] B w [] (fun v H' => v = .int .i64 (placeOf 9 gw gi gb n_) ∧ H' = []) := by
  refine spec_Q Tryd.func134 rfl fun hs => ?_
  have hm_ : (1 ≤ gw ∧ gw ≤ 4) ∧ (2 ≤ gi ∧ gi ≤ 64) ∧ (2 ≤ gb ∧ gb ≤ 512) := hm
  refine W.seq fun K1 hK1 => ?_
  refine W.region ?_
  refine ops_new (fun b => .pointer (some ⟨b, 0, none⟩)) (.cells [(.int .i64 gw), (.int .i64 gi), (.int .i64 gb)].toArray 63 (0, 0)) hs (by kernel_rfl) (fun b4 w2 hs3 => ?_)
  refine ops_run 1 (by kernel_rfl) ?_
  refine ops_done (by kernel_rfl) ?_
  refine hK1 _ _ ?_
  clear hK1
  refine W.seq fun K5 hK5 => ?_
  refine W.region ?_
  refine ops_run 1 (by kernel_rfl) ?_
  refine ops_done (by kernel_rfl) ?_
  refine hK5 _ _ ?_
  clear hK5
  refine W.seq fun K6 hK6 => ?_
  refine W.seq fun K7 hK7 => ?_
  refine W.region ?_
  refine ops_R (runs_loadAgg (ad := ⟨b4, 0, none⟩) (cs := [(.int .i64 gw), (.int .i64 gi), (.int .i64 gb)]) (by kernel_rfl) (cells_sub (hs3.heapAt 0 rfl) rfl)) ?_
  refine ops_call0 hs3 (by kernel_rfl) (rows_spec (gw := gw) (gi := gi) (gb := gb) B _) ?_
  rintro _ _ w8 ⟨rfl, rfl⟩ hs9
  have hs10 := St.ap0 hs9
  refine ops_run 1 (by kernel_rfl) ?_
  refine ops_done (by kernel_rfl) ?_
  refine hK7 _ _ ?_
  clear hK7
  refine W.block ?_
  refine W.loop_start ?_
  refine loopAt_round ?_
  refine W.seq fun K11 hK11 => ?_
  refine W.region ?_
  refine ops_run 1 (by kernel_rfl) ?_
  refine ops_done (by kernel_rfl) ?_
  refine hK11 _ _ ?_
  clear hK11
  refine W.seq fun K12 hK12 => ?_
  refine W.cond_true true (by kernel_rfl) rfl ?_
  refine W.skip ?_
  refine hK12 _ _ ?_
  clear hK12
  refine W.seq fun K13 hK13 => ?_
  refine W.block ?_
  refine W.seq fun K14 hK14 => ?_
  refine W.region ?_
  refine ops_run 1 (by kernel_rfl) ?_
  refine ops_new (fun b => .pointer (some ⟨b, 0, none⟩)) (.cells [(.int .u8 0), (.int .i64 0), (.int .i64 0)].toArray 196 (0, 0)) hs10 (by kernel_rfl) (fun b17 w15 hs16 => ?_)
  refine ops_store (off := 0) (cs := [(.int .u8 0), (.int .i64 0), (.int .i64 0)]) (vs := [(.int .u8 1), (.int .i64 8), (.int .i64 1)]) hs16 (by kernel_rfl) (by simp) rfl (fun w18 hs19 => ?_)
  have hs20 : St B w [] w18 [blk b17 (.cells [(.int .u8 1), (.int .i64 8), (.int .i64 1)].toArray 196 (0, 0)), blk b4 (.cells [(.int .i64 gw), (.int .i64 gi), (.int .i64 gb)].toArray 63 (0, 0))] := hs19
  refine ops_done (by kernel_rfl) ?_
  refine hK14 _ _ ?_
  clear hK14
  refine W.seq fun K21 hK21 => ?_
  refine W.seq fun K22 hK22 => ?_
  refine W.region ?_
  refine ops_run 1 (by kernel_rfl) ?_
  refine ops_R (runs_load (ad := ⟨b17, 0, none⟩) (v := (.int .u8 1)) (by kernel_rfl) (hs20.cellAt 0 rfl rfl)) ?_
  refine ops_run 2 (by kernel_rfl) ?_
  refine ops_done (by kernel_rfl) ?_
  refine hK22 _ _ ?_
  clear hK22
  refine W.cond_true true (by kernel_rfl) rfl ?_
  refine W.seq fun K23 hK23 => ?_
  refine W.region ?_
  refine ops_run 2 (by kernel_rfl) ?_
  refine ops_R (runs_load (ad := ⟨b17, 1, none⟩) (v := (.int .i64 8)) (by kernel_rfl) (hs20.cellAt 0 rfl rfl)) ?_
  refine ops_run 1 (by kernel_rfl) ?_
  refine ops_R (runs_load (ad := ⟨b17, 2, none⟩) (v := (.int .i64 1)) (by kernel_rfl) (hs20.cellAt 0 rfl rfl)) ?_
  refine ops_run 3 (by kernel_rfl) ?_
  refine ops_done (by kernel_rfl) ?_
  refine hK23 _ _ ?_
  clear hK23
  refine W.exit (exit_seq (exit_here ?_))
  refine hK13 _ _ ?_
  clear hK13
  refine W.region ?_
  refine ops_run 2 (by kernel_rfl) ?_
  refine ops_done (by kernel_rfl) ?_
  refine loopAt_next ?_
  refine loopAt_round ?_
  refine W.seq fun K24 hK24 => ?_
  refine W.region ?_
  refine ops_run 1 (by kernel_rfl) ?_
  refine ops_done (by kernel_rfl) ?_
  refine hK24 _ _ ?_
  clear hK24
  refine W.seq fun K25 hK25 => ?_
  refine W.cond_true true (by kernel_rfl) rfl ?_
  refine W.skip ?_
  refine hK25 _ _ ?_
  clear hK25
  refine W.seq fun K26 hK26 => ?_
  refine W.block ?_
  refine W.seq fun K27 hK27 => ?_
  refine W.region ?_
  refine ops_run 1 (by kernel_rfl) ?_
  refine ops_new (fun b => .pointer (some ⟨b, 0, none⟩)) (.cells [(.int .u8 0), (.int .i64 0), (.int .i64 0)].toArray 196 (0, 0)) hs20 (by kernel_rfl) (fun b30 w28 hs29 => ?_)
  refine ops_store (off := 0) (cs := [(.int .u8 0), (.int .i64 0), (.int .i64 0)]) (vs := [(.int .u8 2), (.int .i64 64), (.int .i64 4)]) hs29 (by kernel_rfl) (by simp) rfl (fun w31 hs32 => ?_)
  have hs33 : St B w [] w31 [blk b30 (.cells [(.int .u8 2), (.int .i64 64), (.int .i64 4)].toArray 196 (0, 0)), blk b17 (.cells [(.int .u8 1), (.int .i64 8), (.int .i64 1)].toArray 196 (0, 0)), blk b4 (.cells [(.int .i64 gw), (.int .i64 gi), (.int .i64 gb)].toArray 63 (0, 0))] := hs32
  refine ops_done (by kernel_rfl) ?_
  refine hK27 _ _ ?_
  clear hK27
  refine W.seq fun K34 hK34 => ?_
  refine W.seq fun K35 hK35 => ?_
  refine W.region ?_
  refine ops_run 1 (by kernel_rfl) ?_
  refine ops_R (runs_load (ad := ⟨b30, 0, none⟩) (v := (.int .u8 2)) (by kernel_rfl) (hs33.cellAt 0 rfl rfl)) ?_
  refine ops_run 2 (by kernel_rfl) ?_
  refine ops_done (by kernel_rfl) ?_
  refine hK35 _ _ ?_
  clear hK35
  refine W.cond_true true (by kernel_rfl) rfl ?_
  refine W.seq fun K36 hK36 => ?_
  refine W.region ?_
  refine ops_run 2 (by kernel_rfl) ?_
  refine ops_R (runs_load (ad := ⟨b30, 1, none⟩) (v := (.int .i64 64)) (by kernel_rfl) (hs33.cellAt 0 rfl rfl)) ?_
  refine ops_run 1 (by kernel_rfl) ?_
  refine ops_R (runs_load (ad := ⟨b30, 2, none⟩) (v := (.int .i64 4)) (by kernel_rfl) (hs33.cellAt 0 rfl rfl)) ?_
  refine ops_run 3 (by kernel_rfl) ?_
  refine ops_done (by kernel_rfl) ?_
  refine hK36 _ _ ?_
  clear hK36
  refine W.exit (exit_seq (exit_here ?_))
  refine hK26 _ _ ?_
  clear hK26
  refine W.region ?_
  refine ops_run 2 (by kernel_rfl) ?_
  refine ops_done (by kernel_rfl) ?_
  refine loopAt_next ?_
  refine loopAt_round ?_
  refine W.seq fun K37 hK37 => ?_
  refine W.region ?_
  refine ops_run 1 (by kernel_rfl) ?_
  refine ops_done (by kernel_rfl) ?_
  refine hK37 _ _ ?_
  clear hK37
  refine W.seq fun K38 hK38 => ?_
  refine W.cond_true true (by kernel_rfl) rfl ?_
  refine W.skip ?_
  refine hK38 _ _ ?_
  clear hK38
  refine W.seq fun K39 hK39 => ?_
  refine W.block ?_
  refine W.seq fun K40 hK40 => ?_
  refine W.region ?_
  refine ops_run 1 (by kernel_rfl) ?_
  refine ops_new (fun b => .pointer (some ⟨b, 0, none⟩)) (.cells [(.int .u8 0), (.int .i64 0), (.int .i64 0)].toArray 196 (0, 0)) hs33 (by kernel_rfl) (fun b43 w41 hs42 => ?_)
  refine ops_store (off := 0) (cs := [(.int .u8 0), (.int .i64 0), (.int .i64 0)]) (vs := [(.int .u8 5), (.int .i64 208), (.int .i64 gw)]) hs42 (by kernel_rfl) (by simp) rfl (fun w44 hs45 => ?_)
  have hs46 : St B w [] w44 [blk b43 (.cells [(.int .u8 5), (.int .i64 208), (.int .i64 gw)].toArray 196 (0, 0)), blk b30 (.cells [(.int .u8 2), (.int .i64 64), (.int .i64 4)].toArray 196 (0, 0)), blk b17 (.cells [(.int .u8 1), (.int .i64 8), (.int .i64 1)].toArray 196 (0, 0)), blk b4 (.cells [(.int .i64 gw), (.int .i64 gi), (.int .i64 gb)].toArray 63 (0, 0))] := hs45
  refine ops_done (by kernel_rfl) ?_
  refine hK40 _ _ ?_
  clear hK40
  refine W.seq fun K47 hK47 => ?_
  refine W.seq fun K48 hK48 => ?_
  refine W.region ?_
  refine ops_run 1 (by kernel_rfl) ?_
  refine ops_R (runs_load (ad := ⟨b43, 0, none⟩) (v := (.int .u8 5)) (by kernel_rfl) (hs46.cellAt 0 rfl rfl)) ?_
  refine ops_run 2 (by kernel_rfl) ?_
  refine ops_done (by kernel_rfl) ?_
  refine hK48 _ _ ?_
  clear hK48
  refine W.cond_true true (by kernel_rfl) rfl ?_
  refine W.seq fun K49 hK49 => ?_
  refine W.region ?_
  refine ops_run 2 (by kernel_rfl) ?_
  refine ops_R (runs_load (ad := ⟨b43, 1, none⟩) (v := (.int .i64 208)) (by kernel_rfl) (hs46.cellAt 0 rfl rfl)) ?_
  refine ops_run 1 (by kernel_rfl) ?_
  refine ops_R (runs_load (ad := ⟨b43, 2, none⟩) (v := (.int .i64 gw)) (by kernel_rfl) (hs46.cellAt 0 rfl rfl)) ?_
  refine ops_val (v := .int .i64 (IntKind.i64.wrap (208 * gw))) (v' := .int .i64 (208 * gw)) (by kernel_rfl) (congrArg (Value.int .i64) (wrap_i64 (by omega) (by omega))) ?_
  refine ops_val (v := .int .i64 (IntKind.i64.wrap (264 + (208 * gw)))) (v' := .int .i64 (264 + (208 * gw))) (by kernel_rfl) (congrArg (Value.int .i64) (wrap_i64 (by omega) (by omega))) ?_
  refine ops_run 1 (by kernel_rfl) ?_
  refine ops_done (by kernel_rfl) ?_
  refine hK49 _ _ ?_
  clear hK49
  refine W.exit (exit_seq (exit_here ?_))
  refine hK39 _ _ ?_
  clear hK39
  refine W.region ?_
  refine ops_run 2 (by kernel_rfl) ?_
  refine ops_done (by kernel_rfl) ?_
  refine loopAt_next ?_
  refine loopAt_round ?_
  refine W.seq fun K50 hK50 => ?_
  refine W.region ?_
  refine ops_run 1 (by kernel_rfl) ?_
  refine ops_done (by kernel_rfl) ?_
  refine hK50 _ _ ?_
  clear hK50
  refine W.seq fun K51 hK51 => ?_
  refine W.cond_true true (by kernel_rfl) rfl ?_
  refine W.skip ?_
  refine hK51 _ _ ?_
  clear hK51
  refine W.seq fun K52 hK52 => ?_
  refine W.block ?_
  refine W.seq fun K53 hK53 => ?_
  refine W.region ?_
  refine ops_run 1 (by kernel_rfl) ?_
  refine ops_new (fun b => .pointer (some ⟨b, 0, none⟩)) (.cells [(.int .u8 0), (.int .i64 0), (.int .i64 0)].toArray 196 (0, 0)) hs46 (by kernel_rfl) (fun b56 w54 hs55 => ?_)
  refine ops_store (off := 0) (cs := [(.int .u8 0), (.int .i64 0), (.int .i64 0)]) (vs := [(.int .u8 6), (.int .i64 8), (.int .i64 1)]) hs55 (by kernel_rfl) (by simp) rfl (fun w57 hs58 => ?_)
  have hs59 : St B w [] w57 [blk b56 (.cells [(.int .u8 6), (.int .i64 8), (.int .i64 1)].toArray 196 (0, 0)), blk b43 (.cells [(.int .u8 5), (.int .i64 208), (.int .i64 gw)].toArray 196 (0, 0)), blk b30 (.cells [(.int .u8 2), (.int .i64 64), (.int .i64 4)].toArray 196 (0, 0)), blk b17 (.cells [(.int .u8 1), (.int .i64 8), (.int .i64 1)].toArray 196 (0, 0)), blk b4 (.cells [(.int .i64 gw), (.int .i64 gi), (.int .i64 gb)].toArray 63 (0, 0))] := hs58
  refine ops_done (by kernel_rfl) ?_
  refine hK53 _ _ ?_
  clear hK53
  refine W.seq fun K60 hK60 => ?_
  refine W.seq fun K61 hK61 => ?_
  refine W.region ?_
  refine ops_run 1 (by kernel_rfl) ?_
  refine ops_R (runs_load (ad := ⟨b56, 0, none⟩) (v := (.int .u8 6)) (by kernel_rfl) (hs59.cellAt 0 rfl rfl)) ?_
  refine ops_run 2 (by kernel_rfl) ?_
  refine ops_done (by kernel_rfl) ?_
  refine hK61 _ _ ?_
  clear hK61
  refine W.cond_true true (by kernel_rfl) rfl ?_
  refine W.seq fun K62 hK62 => ?_
  refine W.region ?_
  refine ops_run 2 (by kernel_rfl) ?_
  refine ops_R (runs_load (ad := ⟨b56, 1, none⟩) (v := (.int .i64 8)) (by kernel_rfl) (hs59.cellAt 0 rfl rfl)) ?_
  refine ops_run 1 (by kernel_rfl) ?_
  refine ops_R (runs_load (ad := ⟨b56, 2, none⟩) (v := (.int .i64 1)) (by kernel_rfl) (hs59.cellAt 0 rfl rfl)) ?_
  refine ops_run 1 (by kernel_rfl) ?_
  refine ops_val (v := .int .i64 (IntKind.i64.wrap ((264 + (208 * gw)) + 8))) (v' := .int .i64 ((264 + (208 * gw)) + 8)) (by kernel_rfl) (congrArg (Value.int .i64) (wrap_i64 (by omega) (by omega))) ?_
  refine ops_run 1 (by kernel_rfl) ?_
  refine ops_done (by kernel_rfl) ?_
  refine hK62 _ _ ?_
  clear hK62
  refine W.exit (exit_seq (exit_here ?_))
  refine hK52 _ _ ?_
  clear hK52
  refine W.region ?_
  refine ops_run 2 (by kernel_rfl) ?_
  refine ops_done (by kernel_rfl) ?_
  refine loopAt_next ?_
  refine loopAt_round ?_
  refine W.seq fun K63 hK63 => ?_
  refine W.region ?_
  refine ops_run 1 (by kernel_rfl) ?_
  refine ops_done (by kernel_rfl) ?_
  refine hK63 _ _ ?_
  clear hK63
  refine W.seq fun K64 hK64 => ?_
  refine W.cond_true true (by kernel_rfl) rfl ?_
  refine W.skip ?_
  refine hK64 _ _ ?_
  clear hK64
  refine W.seq fun K65 hK65 => ?_
  refine W.block ?_
  refine W.seq fun K66 hK66 => ?_
  refine W.region ?_
  refine ops_run 1 (by kernel_rfl) ?_
  refine ops_new (fun b => .pointer (some ⟨b, 0, none⟩)) (.cells [(.int .u8 0), (.int .i64 0), (.int .i64 0)].toArray 196 (0, 0)) hs59 (by kernel_rfl) (fun b69 w67 hs68 => ?_)
  refine ops_store (off := 0) (cs := [(.int .u8 0), (.int .i64 0), (.int .i64 0)]) (vs := [(.int .u8 7), (.int .i64 8), (.int .i64 1)]) hs68 (by kernel_rfl) (by simp) rfl (fun w70 hs71 => ?_)
  have hs72 : St B w [] w70 [blk b69 (.cells [(.int .u8 7), (.int .i64 8), (.int .i64 1)].toArray 196 (0, 0)), blk b56 (.cells [(.int .u8 6), (.int .i64 8), (.int .i64 1)].toArray 196 (0, 0)), blk b43 (.cells [(.int .u8 5), (.int .i64 208), (.int .i64 gw)].toArray 196 (0, 0)), blk b30 (.cells [(.int .u8 2), (.int .i64 64), (.int .i64 4)].toArray 196 (0, 0)), blk b17 (.cells [(.int .u8 1), (.int .i64 8), (.int .i64 1)].toArray 196 (0, 0)), blk b4 (.cells [(.int .i64 gw), (.int .i64 gi), (.int .i64 gb)].toArray 63 (0, 0))] := hs71
  refine ops_done (by kernel_rfl) ?_
  refine hK66 _ _ ?_
  clear hK66
  refine W.seq fun K73 hK73 => ?_
  refine W.seq fun K74 hK74 => ?_
  refine W.region ?_
  refine ops_run 1 (by kernel_rfl) ?_
  refine ops_R (runs_load (ad := ⟨b69, 0, none⟩) (v := (.int .u8 7)) (by kernel_rfl) (hs72.cellAt 0 rfl rfl)) ?_
  refine ops_run 2 (by kernel_rfl) ?_
  refine ops_done (by kernel_rfl) ?_
  refine hK74 _ _ ?_
  clear hK74
  refine W.cond_true true (by kernel_rfl) rfl ?_
  refine W.seq fun K75 hK75 => ?_
  refine W.region ?_
  refine ops_run 2 (by kernel_rfl) ?_
  refine ops_R (runs_load (ad := ⟨b69, 1, none⟩) (v := (.int .i64 8)) (by kernel_rfl) (hs72.cellAt 0 rfl rfl)) ?_
  refine ops_run 1 (by kernel_rfl) ?_
  refine ops_R (runs_load (ad := ⟨b69, 2, none⟩) (v := (.int .i64 1)) (by kernel_rfl) (hs72.cellAt 0 rfl rfl)) ?_
  refine ops_run 1 (by kernel_rfl) ?_
  refine ops_val (v := .int .i64 (IntKind.i64.wrap (((264 + (208 * gw)) + 8) + 8))) (v' := .int .i64 (((264 + (208 * gw)) + 8) + 8)) (by kernel_rfl) (congrArg (Value.int .i64) (wrap_i64 (by omega) (by omega))) ?_
  refine ops_run 1 (by kernel_rfl) ?_
  refine ops_done (by kernel_rfl) ?_
  refine hK75 _ _ ?_
  clear hK75
  refine W.exit (exit_seq (exit_here ?_))
  refine hK65 _ _ ?_
  clear hK65
  refine W.region ?_
  refine ops_run 2 (by kernel_rfl) ?_
  refine ops_done (by kernel_rfl) ?_
  refine loopAt_next ?_
  refine loopAt_round ?_
  refine W.seq fun K76 hK76 => ?_
  refine W.region ?_
  refine ops_run 1 (by kernel_rfl) ?_
  refine ops_done (by kernel_rfl) ?_
  refine hK76 _ _ ?_
  clear hK76
  refine W.seq fun K77 hK77 => ?_
  refine W.cond_true true (by kernel_rfl) rfl ?_
  refine W.skip ?_
  refine hK77 _ _ ?_
  clear hK77
  refine W.seq fun K78 hK78 => ?_
  refine W.block ?_
  refine W.seq fun K79 hK79 => ?_
  refine W.region ?_
  refine ops_run 1 (by kernel_rfl) ?_
  refine ops_new (fun b => .pointer (some ⟨b, 0, none⟩)) (.cells [(.int .u8 0), (.int .i64 0), (.int .i64 0)].toArray 196 (0, 0)) hs72 (by kernel_rfl) (fun b82 w80 hs81 => ?_)
  refine ops_store (off := 0) (cs := [(.int .u8 0), (.int .i64 0), (.int .i64 0)]) (vs := [(.int .u8 8), (.int .i64 16), (.int .i64 gi)]) hs81 (by kernel_rfl) (by simp) rfl (fun w83 hs84 => ?_)
  have hs85 : St B w [] w83 [blk b82 (.cells [(.int .u8 8), (.int .i64 16), (.int .i64 gi)].toArray 196 (0, 0)), blk b69 (.cells [(.int .u8 7), (.int .i64 8), (.int .i64 1)].toArray 196 (0, 0)), blk b56 (.cells [(.int .u8 6), (.int .i64 8), (.int .i64 1)].toArray 196 (0, 0)), blk b43 (.cells [(.int .u8 5), (.int .i64 208), (.int .i64 gw)].toArray 196 (0, 0)), blk b30 (.cells [(.int .u8 2), (.int .i64 64), (.int .i64 4)].toArray 196 (0, 0)), blk b17 (.cells [(.int .u8 1), (.int .i64 8), (.int .i64 1)].toArray 196 (0, 0)), blk b4 (.cells [(.int .i64 gw), (.int .i64 gi), (.int .i64 gb)].toArray 63 (0, 0))] := hs84
  refine ops_done (by kernel_rfl) ?_
  refine hK79 _ _ ?_
  clear hK79
  refine W.seq fun K86 hK86 => ?_
  refine W.seq fun K87 hK87 => ?_
  refine W.region ?_
  refine ops_run 1 (by kernel_rfl) ?_
  refine ops_R (runs_load (ad := ⟨b82, 0, none⟩) (v := (.int .u8 8)) (by kernel_rfl) (hs85.cellAt 0 rfl rfl)) ?_
  refine ops_run 2 (by kernel_rfl) ?_
  refine ops_done (by kernel_rfl) ?_
  refine hK87 _ _ ?_
  clear hK87
  refine W.cond_true true (by kernel_rfl) rfl ?_
  refine W.seq fun K88 hK88 => ?_
  refine W.region ?_
  refine ops_run 2 (by kernel_rfl) ?_
  refine ops_R (runs_load (ad := ⟨b82, 1, none⟩) (v := (.int .i64 16)) (by kernel_rfl) (hs85.cellAt 0 rfl rfl)) ?_
  refine ops_run 1 (by kernel_rfl) ?_
  refine ops_R (runs_load (ad := ⟨b82, 2, none⟩) (v := (.int .i64 gi)) (by kernel_rfl) (hs85.cellAt 0 rfl rfl)) ?_
  refine ops_val (v := .int .i64 (IntKind.i64.wrap (16 * gi))) (v' := .int .i64 (16 * gi)) (by kernel_rfl) (congrArg (Value.int .i64) (wrap_i64 (by omega) (by omega))) ?_
  refine ops_val (v := .int .i64 (IntKind.i64.wrap ((((264 + (208 * gw)) + 8) + 8) + (16 * gi)))) (v' := .int .i64 ((((264 + (208 * gw)) + 8) + 8) + (16 * gi))) (by kernel_rfl) (congrArg (Value.int .i64) (wrap_i64 (by omega) (by omega))) ?_
  refine ops_run 1 (by kernel_rfl) ?_
  refine ops_done (by kernel_rfl) ?_
  refine hK88 _ _ ?_
  clear hK88
  refine W.exit (exit_seq (exit_here ?_))
  refine hK78 _ _ ?_
  clear hK78
  refine W.region ?_
  refine ops_run 2 (by kernel_rfl) ?_
  refine ops_done (by kernel_rfl) ?_
  refine loopAt_next ?_
  refine loopAt_round ?_
  refine W.seq fun K89 hK89 => ?_
  refine W.region ?_
  refine ops_run 1 (by kernel_rfl) ?_
  refine ops_done (by kernel_rfl) ?_
  refine hK89 _ _ ?_
  clear hK89
  refine W.seq fun K90 hK90 => ?_
  refine W.cond_true true (by kernel_rfl) rfl ?_
  refine W.skip ?_
  refine hK90 _ _ ?_
  clear hK90
  refine W.seq fun K91 hK91 => ?_
  refine W.block ?_
  refine W.seq fun K92 hK92 => ?_
  refine W.region ?_
  refine ops_run 1 (by kernel_rfl) ?_
  refine ops_new (fun b => .pointer (some ⟨b, 0, none⟩)) (.cells [(.int .u8 0), (.int .i64 0), (.int .i64 0)].toArray 196 (0, 0)) hs85 (by kernel_rfl) (fun b95 w93 hs94 => ?_)
  refine ops_store (off := 0) (cs := [(.int .u8 0), (.int .i64 0), (.int .i64 0)]) (vs := [(.int .u8 9), (.int .i64 8), (.int .i64 gb)]) hs94 (by kernel_rfl) (by simp) rfl (fun w96 hs97 => ?_)
  have hs98 : St B w [] w96 [blk b95 (.cells [(.int .u8 9), (.int .i64 8), (.int .i64 gb)].toArray 196 (0, 0)), blk b82 (.cells [(.int .u8 8), (.int .i64 16), (.int .i64 gi)].toArray 196 (0, 0)), blk b69 (.cells [(.int .u8 7), (.int .i64 8), (.int .i64 1)].toArray 196 (0, 0)), blk b56 (.cells [(.int .u8 6), (.int .i64 8), (.int .i64 1)].toArray 196 (0, 0)), blk b43 (.cells [(.int .u8 5), (.int .i64 208), (.int .i64 gw)].toArray 196 (0, 0)), blk b30 (.cells [(.int .u8 2), (.int .i64 64), (.int .i64 4)].toArray 196 (0, 0)), blk b17 (.cells [(.int .u8 1), (.int .i64 8), (.int .i64 1)].toArray 196 (0, 0)), blk b4 (.cells [(.int .i64 gw), (.int .i64 gi), (.int .i64 gb)].toArray 63 (0, 0))] := hs97
  refine ops_done (by kernel_rfl) ?_
  refine hK92 _ _ ?_
  clear hK92
  refine W.seq fun K99 hK99 => ?_
  refine W.seq fun K100 hK100 => ?_
  refine W.region ?_
  refine ops_run 1 (by kernel_rfl) ?_
  refine ops_R (runs_load (ad := ⟨b95, 0, none⟩) (v := (.int .u8 9)) (by kernel_rfl) (hs98.cellAt 0 rfl rfl)) ?_
  refine ops_run 2 (by kernel_rfl) ?_
  refine ops_done (by kernel_rfl) ?_
  refine hK100 _ _ ?_
  clear hK100
  refine W.cond_false false (by kernel_rfl) rfl ?_
  refine W.skip ?_
  refine hK99 _ _ ?_
  clear hK99
  refine W.seq fun K101 hK101 => ?_
  refine W.seq fun K102 hK102 => ?_
  refine W.region ?_
  refine ops_R (runs_loadAgg (ad := ⟨b4, 0, none⟩) (cs := [(.int .i64 gw), (.int .i64 gi), (.int .i64 gb)]) (by kernel_rfl) (cells_sub (hs98.heapAt 7 rfl) rfl)) ?_
  refine ops_call0 hs98 (by kernel_rfl) (may_spec (gw := gw) (gi := gi) (gb := gb) B _) ?_
  rintro _ _ w103 ⟨rfl, rfl⟩ hs104
  have hs105 := St.ap0 hs104
  refine ops_run 1 (by kernel_rfl) ?_
  rcases Bool.eq_false_or_eq_true (decide (May gw gi gb)) with h106 | h106
  ·
    have h106p : May gw gi gb := of_decide_eq_true h106
    refine ops_set 28 (v := .bool true) (eq_bool_of (by kernel_rfl) h106) ?_
    refine ops_set 27 (v := .bool true) (eq_bool_of (by kernel_rfl) h106) ?_
    refine ops_run 2 (by kernel_rfl) ?_
    refine ops_R (runs_load (ad := ⟨b95, 2, none⟩) (v := (.int .i64 gb)) (by kernel_rfl) (hs105.cellAt 0 rfl rfl)) ?_
    refine ops_val (v := .int .i64 (IntKind.i64.wrap (gb - 1))) (v' := .int .i64 (gb - 1)) (by kernel_rfl) (congrArg (Value.int .i64) (wrap_i64 (by omega) (by omega))) ?_
    refine ops_call0 hs105 (by kernel_rfl) (within_spec (n_ := n_) (f_ := 0) (t_ := (gb - 1)) B _) ?_
    rintro _ _ w107 ⟨rfl, rfl⟩ hs108
    have hs109 := St.ap0 hs108
    refine ops_run 1 (by kernel_rfl) ?_
    refine ops_done (by kernel_rfl) ?_
    refine hK102 _ _ ?_
    clear hK102
    refine W.cond (decide (0 ≤ n_ ∧ n_ ≤ (gb - 1))) (by kernel_rfl) (fun h110 => ?_) (fun h110 => ?_)
    ·
      have h110p : 0 ≤ n_ ∧ n_ ≤ (gb - 1) := of_decide_eq_true h110
      refine W.seq fun K111 hK111 => ?_
      refine W.region ?_
      refine ops_run 2 (by kernel_rfl) ?_
      refine ops_R (runs_load (ad := ⟨b95, 1, none⟩) (v := (.int .i64 8)) (by kernel_rfl) (hs109.cellAt 0 rfl rfl)) ?_
      refine ops_run 1 (by kernel_rfl) ?_
      refine ops_val (v := .int .i64 (IntKind.i64.wrap (8 * n_))) (v' := .int .i64 (8 * n_)) (by kernel_rfl) (congrArg (Value.int .i64) (wrap_i64 (by omega) (by omega))) ?_
      refine ops_val (v := .int .i64 (IntKind.i64.wrap (((((264 + (208 * gw)) + 8) + 8) + (16 * gi)) + (8 * n_)))) (v' := .int .i64 (((((264 + (208 * gw)) + 8) + 8) + (16 * gi)) + (8 * n_))) (by kernel_rfl) (congrArg (Value.int .i64) (wrap_i64 (by omega) (by omega))) ?_
      refine ops_run 1 (by kernel_rfl) ?_
      refine ops_done (by kernel_rfl) ?_
      refine hK111 _ _ ?_
      clear hK111
      refine W.ret (ret_seq (ret_block (ret_seq (ret_seq (ret_block (ret_seq ?_))))))
      have hs112 := St.tk0 hs109
      refine ret_of (.int .i64 (((((264 + (208 * gw)) + 8) + 8) + (16 * gi)) + (8 * n_))) (by kernel_rfl) ⟨_, ⟨congrArg (Value.int .i64) (by first | contradiction | (simp only [placeOf, if_pos hm]; split <;> omega) | (simp only [placeOf, if_neg hm]; done) | (simp only [placeOf, if_pos hm]; omega)), rfl⟩, hs112⟩
    ·
      have h110p : ¬ (0 ≤ n_ ∧ n_ ≤ (gb - 1)) := of_decide_eq_false h110
      refine W.skip ?_
      refine hK101 _ _ ?_
      clear hK101
      refine W.exit (exit_block (by decide) (exit_seq (exit_seq (exit_here ?_))))
      refine hK6 _ _ ?_
      clear hK6
      refine W.seq fun K113 hK113 => ?_
      refine W.region ?_
      refine ops_run 1 (by kernel_rfl) ?_
      refine ops_done (by kernel_rfl) ?_
      refine hK113 _ _ ?_
      clear hK113
      refine W.ret ?_
      have hs114 := St.tk0 hs109
      refine ret_of (.int .i64 (-1)) (by kernel_rfl) ⟨_, ⟨congrArg (Value.int .i64) (by first | contradiction | (simp only [placeOf, if_pos hm]; split <;> omega) | (simp only [placeOf, if_neg hm]; done) | (simp only [placeOf, if_pos hm]; omega)), rfl⟩, hs114⟩
  ·
    have h106p : ¬ (May gw gi gb) := of_decide_eq_false h106
    refine ops_set 28 (v := .bool false) (eq_bool_of (by kernel_rfl) h106) ?_
    refine ops_set 27 (v := .bool false) (eq_bool_of (by kernel_rfl) h106) ?_
    refine ops_run 6 (by kernel_rfl) ?_
    refine ops_done (by kernel_rfl) ?_
    refine hK102 _ _ ?_
    clear hK102
    refine W.cond_false false (by kernel_rfl) rfl ?_
    refine W.skip ?_
    refine hK101 _ _ ?_
    clear hK101
    refine W.exit (exit_block (by decide) (exit_seq (exit_seq (exit_here ?_))))
    refine hK6 _ _ ?_
    clear hK6
    refine W.seq fun K115 hK115 => ?_
    refine W.region ?_
    refine ops_run 1 (by kernel_rfl) ?_
    refine ops_done (by kernel_rfl) ?_
    refine hK115 _ _ ?_
    clear hK115
    refine W.ret ?_
    have hs116 := St.tk0 hs105
    refine ret_of (.int .i64 (-1)) (by kernel_rfl) ⟨_, ⟨congrArg (Value.int .i64) (by first | contradiction | (simp only [placeOf, if_pos hm]; split <;> omega) | (simp only [placeOf, if_neg hm]; done) | (simp only [placeOf, if_pos hm]; omega)), rfl⟩, hs116⟩

set_option maxRecDepth 20000 in
theorem place9_not {gw gi gb n_ : Int} (B : Nat) (w : World) (hm : ¬ May gw gi gb) : Spec Tryd.prog 134 #[(.agg #[(.int .i64 gw), (.int .i64 gi), (.int .i64 gb)]), (.int .u8 9), (.int .i64 n_)] B w [] (fun v H' => v = .int .i64 (placeOf 9 gw gi gb n_) ∧ H' = []) := by
  refine spec_Q Tryd.func134 rfl fun hs => ?_
  refine W.seq fun K1 hK1 => ?_
  refine W.region ?_
  refine ops_new (fun b => .pointer (some ⟨b, 0, none⟩)) (.cells [(.int .i64 gw), (.int .i64 gi), (.int .i64 gb)].toArray 63 (0, 0)) hs (by kernel_rfl) (fun b4 w2 hs3 => ?_)
  refine ops_run 1 (by kernel_rfl) ?_
  refine ops_done (by kernel_rfl) ?_
  refine hK1 _ _ ?_
  clear hK1
  refine W.seq fun K5 hK5 => ?_
  refine W.region ?_
  refine ops_run 1 (by kernel_rfl) ?_
  refine ops_done (by kernel_rfl) ?_
  refine hK5 _ _ ?_
  clear hK5
  refine W.seq fun K6 hK6 => ?_
  refine W.seq fun K7 hK7 => ?_
  refine W.region ?_
  refine ops_R (runs_loadAgg (ad := ⟨b4, 0, none⟩) (cs := [(.int .i64 gw), (.int .i64 gi), (.int .i64 gb)]) (by kernel_rfl) (cells_sub (hs3.heapAt 0 rfl) rfl)) ?_
  refine ops_call0 hs3 (by kernel_rfl) (rows_spec (gw := gw) (gi := gi) (gb := gb) B _) ?_
  rintro _ _ w8 ⟨rfl, rfl⟩ hs9
  have hs10 := St.ap0 hs9
  refine ops_run 1 (by kernel_rfl) ?_
  refine ops_done (by kernel_rfl) ?_
  refine hK7 _ _ ?_
  clear hK7
  refine W.block ?_
  refine W.loop_start ?_
  refine loopAt_round ?_
  refine W.seq fun K11 hK11 => ?_
  refine W.region ?_
  refine ops_run 1 (by kernel_rfl) ?_
  refine ops_done (by kernel_rfl) ?_
  refine hK11 _ _ ?_
  clear hK11
  refine W.seq fun K12 hK12 => ?_
  refine W.cond_true true (by kernel_rfl) rfl ?_
  refine W.skip ?_
  refine hK12 _ _ ?_
  clear hK12
  refine W.seq fun K13 hK13 => ?_
  refine W.block ?_
  refine W.seq fun K14 hK14 => ?_
  refine W.region ?_
  refine ops_run 1 (by kernel_rfl) ?_
  refine ops_new (fun b => .pointer (some ⟨b, 0, none⟩)) (.cells [(.int .u8 0), (.int .i64 0), (.int .i64 0)].toArray 196 (0, 0)) hs10 (by kernel_rfl) (fun b17 w15 hs16 => ?_)
  refine ops_store (off := 0) (cs := [(.int .u8 0), (.int .i64 0), (.int .i64 0)]) (vs := [(.int .u8 1), (.int .i64 8), (.int .i64 1)]) hs16 (by kernel_rfl) (by simp) rfl (fun w18 hs19 => ?_)
  have hs20 : St B w [] w18 [blk b17 (.cells [(.int .u8 1), (.int .i64 8), (.int .i64 1)].toArray 196 (0, 0)), blk b4 (.cells [(.int .i64 gw), (.int .i64 gi), (.int .i64 gb)].toArray 63 (0, 0))] := hs19
  refine ops_done (by kernel_rfl) ?_
  refine hK14 _ _ ?_
  clear hK14
  refine W.seq fun K21 hK21 => ?_
  refine W.seq fun K22 hK22 => ?_
  refine W.region ?_
  refine ops_run 1 (by kernel_rfl) ?_
  refine ops_R (runs_load (ad := ⟨b17, 0, none⟩) (v := (.int .u8 1)) (by kernel_rfl) (hs20.cellAt 0 rfl rfl)) ?_
  refine ops_run 2 (by kernel_rfl) ?_
  refine ops_done (by kernel_rfl) ?_
  refine hK22 _ _ ?_
  clear hK22
  refine W.cond_true true (by kernel_rfl) rfl ?_
  refine W.seq fun K23 hK23 => ?_
  refine W.region ?_
  refine ops_run 2 (by kernel_rfl) ?_
  refine ops_R (runs_load (ad := ⟨b17, 1, none⟩) (v := (.int .i64 8)) (by kernel_rfl) (hs20.cellAt 0 rfl rfl)) ?_
  refine ops_run 1 (by kernel_rfl) ?_
  refine ops_R (runs_load (ad := ⟨b17, 2, none⟩) (v := (.int .i64 1)) (by kernel_rfl) (hs20.cellAt 0 rfl rfl)) ?_
  refine ops_run 3 (by kernel_rfl) ?_
  refine ops_done (by kernel_rfl) ?_
  refine hK23 _ _ ?_
  clear hK23
  refine W.exit (exit_seq (exit_here ?_))
  refine hK13 _ _ ?_
  clear hK13
  refine W.region ?_
  refine ops_run 2 (by kernel_rfl) ?_
  refine ops_done (by kernel_rfl) ?_
  refine loopAt_next ?_
  refine loopAt_round ?_
  refine W.seq fun K24 hK24 => ?_
  refine W.region ?_
  refine ops_run 1 (by kernel_rfl) ?_
  refine ops_done (by kernel_rfl) ?_
  refine hK24 _ _ ?_
  clear hK24
  refine W.seq fun K25 hK25 => ?_
  refine W.cond_true true (by kernel_rfl) rfl ?_
  refine W.skip ?_
  refine hK25 _ _ ?_
  clear hK25
  refine W.seq fun K26 hK26 => ?_
  refine W.block ?_
  refine W.seq fun K27 hK27 => ?_
  refine W.region ?_
  refine ops_run 1 (by kernel_rfl) ?_
  refine ops_new (fun b => .pointer (some ⟨b, 0, none⟩)) (.cells [(.int .u8 0), (.int .i64 0), (.int .i64 0)].toArray 196 (0, 0)) hs20 (by kernel_rfl) (fun b30 w28 hs29 => ?_)
  refine ops_store (off := 0) (cs := [(.int .u8 0), (.int .i64 0), (.int .i64 0)]) (vs := [(.int .u8 2), (.int .i64 64), (.int .i64 4)]) hs29 (by kernel_rfl) (by simp) rfl (fun w31 hs32 => ?_)
  have hs33 : St B w [] w31 [blk b30 (.cells [(.int .u8 2), (.int .i64 64), (.int .i64 4)].toArray 196 (0, 0)), blk b17 (.cells [(.int .u8 1), (.int .i64 8), (.int .i64 1)].toArray 196 (0, 0)), blk b4 (.cells [(.int .i64 gw), (.int .i64 gi), (.int .i64 gb)].toArray 63 (0, 0))] := hs32
  refine ops_done (by kernel_rfl) ?_
  refine hK27 _ _ ?_
  clear hK27
  refine W.seq fun K34 hK34 => ?_
  refine W.seq fun K35 hK35 => ?_
  refine W.region ?_
  refine ops_run 1 (by kernel_rfl) ?_
  refine ops_R (runs_load (ad := ⟨b30, 0, none⟩) (v := (.int .u8 2)) (by kernel_rfl) (hs33.cellAt 0 rfl rfl)) ?_
  refine ops_run 2 (by kernel_rfl) ?_
  refine ops_done (by kernel_rfl) ?_
  refine hK35 _ _ ?_
  clear hK35
  refine W.cond_true true (by kernel_rfl) rfl ?_
  refine W.seq fun K36 hK36 => ?_
  refine W.region ?_
  refine ops_run 2 (by kernel_rfl) ?_
  refine ops_R (runs_load (ad := ⟨b30, 1, none⟩) (v := (.int .i64 64)) (by kernel_rfl) (hs33.cellAt 0 rfl rfl)) ?_
  refine ops_run 1 (by kernel_rfl) ?_
  refine ops_R (runs_load (ad := ⟨b30, 2, none⟩) (v := (.int .i64 4)) (by kernel_rfl) (hs33.cellAt 0 rfl rfl)) ?_
  refine ops_run 3 (by kernel_rfl) ?_
  refine ops_done (by kernel_rfl) ?_
  refine hK36 _ _ ?_
  clear hK36
  refine W.exit (exit_seq (exit_here ?_))
  refine hK26 _ _ ?_
  clear hK26
  refine W.region ?_
  refine ops_run 2 (by kernel_rfl) ?_
  refine ops_done (by kernel_rfl) ?_
  refine loopAt_next ?_
  refine loopAt_round ?_
  refine W.seq fun K37 hK37 => ?_
  refine W.region ?_
  refine ops_run 1 (by kernel_rfl) ?_
  refine ops_done (by kernel_rfl) ?_
  refine hK37 _ _ ?_
  clear hK37
  refine W.seq fun K38 hK38 => ?_
  refine W.cond_true true (by kernel_rfl) rfl ?_
  refine W.skip ?_
  refine hK38 _ _ ?_
  clear hK38
  refine W.seq fun K39 hK39 => ?_
  refine W.block ?_
  refine W.seq fun K40 hK40 => ?_
  refine W.region ?_
  refine ops_run 1 (by kernel_rfl) ?_
  refine ops_new (fun b => .pointer (some ⟨b, 0, none⟩)) (.cells [(.int .u8 0), (.int .i64 0), (.int .i64 0)].toArray 196 (0, 0)) hs33 (by kernel_rfl) (fun b43 w41 hs42 => ?_)
  refine ops_store (off := 0) (cs := [(.int .u8 0), (.int .i64 0), (.int .i64 0)]) (vs := [(.int .u8 5), (.int .i64 208), (.int .i64 gw)]) hs42 (by kernel_rfl) (by simp) rfl (fun w44 hs45 => ?_)
  have hs46 : St B w [] w44 [blk b43 (.cells [(.int .u8 5), (.int .i64 208), (.int .i64 gw)].toArray 196 (0, 0)), blk b30 (.cells [(.int .u8 2), (.int .i64 64), (.int .i64 4)].toArray 196 (0, 0)), blk b17 (.cells [(.int .u8 1), (.int .i64 8), (.int .i64 1)].toArray 196 (0, 0)), blk b4 (.cells [(.int .i64 gw), (.int .i64 gi), (.int .i64 gb)].toArray 63 (0, 0))] := hs45
  refine ops_done (by kernel_rfl) ?_
  refine hK40 _ _ ?_
  clear hK40
  refine W.seq fun K47 hK47 => ?_
  refine W.seq fun K48 hK48 => ?_
  refine W.region ?_
  refine ops_run 1 (by kernel_rfl) ?_
  refine ops_R (runs_load (ad := ⟨b43, 0, none⟩) (v := (.int .u8 5)) (by kernel_rfl) (hs46.cellAt 0 rfl rfl)) ?_
  refine ops_run 2 (by kernel_rfl) ?_
  refine ops_done (by kernel_rfl) ?_
  refine hK48 _ _ ?_
  clear hK48
  refine W.cond_true true (by kernel_rfl) rfl ?_
  refine W.seq fun K49 hK49 => ?_
  refine W.region ?_
  refine ops_run 2 (by kernel_rfl) ?_
  refine ops_R (runs_load (ad := ⟨b43, 1, none⟩) (v := (.int .i64 208)) (by kernel_rfl) (hs46.cellAt 0 rfl rfl)) ?_
  refine ops_run 1 (by kernel_rfl) ?_
  refine ops_R (runs_load (ad := ⟨b43, 2, none⟩) (v := (.int .i64 gw)) (by kernel_rfl) (hs46.cellAt 0 rfl rfl)) ?_
  refine ops_val (v := .int .i64 (IntKind.i64.wrap (208 * gw))) (v' := .int .i64 (IntKind.i64.wrap (208 * gw))) (by kernel_rfl) rfl ?_
  refine ops_val (v := .int .i64 (IntKind.i64.wrap (264 + (IntKind.i64.wrap (208 * gw))))) (v' := .int .i64 (IntKind.i64.wrap (264 + (IntKind.i64.wrap (208 * gw))))) (by kernel_rfl) rfl ?_
  refine ops_run 1 (by kernel_rfl) ?_
  refine ops_done (by kernel_rfl) ?_
  refine hK49 _ _ ?_
  clear hK49
  refine W.exit (exit_seq (exit_here ?_))
  refine hK39 _ _ ?_
  clear hK39
  refine W.region ?_
  refine ops_run 2 (by kernel_rfl) ?_
  refine ops_done (by kernel_rfl) ?_
  refine loopAt_next ?_
  refine loopAt_round ?_
  refine W.seq fun K50 hK50 => ?_
  refine W.region ?_
  refine ops_run 1 (by kernel_rfl) ?_
  refine ops_done (by kernel_rfl) ?_
  refine hK50 _ _ ?_
  clear hK50
  refine W.seq fun K51 hK51 => ?_
  refine W.cond_true true (by kernel_rfl) rfl ?_
  refine W.skip ?_
  refine hK51 _ _ ?_
  clear hK51
  refine W.seq fun K52 hK52 => ?_
  refine W.block ?_
  refine W.seq fun K53 hK53 => ?_
  refine W.region ?_
  refine ops_run 1 (by kernel_rfl) ?_
  refine ops_new (fun b => .pointer (some ⟨b, 0, none⟩)) (.cells [(.int .u8 0), (.int .i64 0), (.int .i64 0)].toArray 196 (0, 0)) hs46 (by kernel_rfl) (fun b56 w54 hs55 => ?_)
  refine ops_store (off := 0) (cs := [(.int .u8 0), (.int .i64 0), (.int .i64 0)]) (vs := [(.int .u8 6), (.int .i64 8), (.int .i64 1)]) hs55 (by kernel_rfl) (by simp) rfl (fun w57 hs58 => ?_)
  have hs59 : St B w [] w57 [blk b56 (.cells [(.int .u8 6), (.int .i64 8), (.int .i64 1)].toArray 196 (0, 0)), blk b43 (.cells [(.int .u8 5), (.int .i64 208), (.int .i64 gw)].toArray 196 (0, 0)), blk b30 (.cells [(.int .u8 2), (.int .i64 64), (.int .i64 4)].toArray 196 (0, 0)), blk b17 (.cells [(.int .u8 1), (.int .i64 8), (.int .i64 1)].toArray 196 (0, 0)), blk b4 (.cells [(.int .i64 gw), (.int .i64 gi), (.int .i64 gb)].toArray 63 (0, 0))] := hs58
  refine ops_done (by kernel_rfl) ?_
  refine hK53 _ _ ?_
  clear hK53
  refine W.seq fun K60 hK60 => ?_
  refine W.seq fun K61 hK61 => ?_
  refine W.region ?_
  refine ops_run 1 (by kernel_rfl) ?_
  refine ops_R (runs_load (ad := ⟨b56, 0, none⟩) (v := (.int .u8 6)) (by kernel_rfl) (hs59.cellAt 0 rfl rfl)) ?_
  refine ops_run 2 (by kernel_rfl) ?_
  refine ops_done (by kernel_rfl) ?_
  refine hK61 _ _ ?_
  clear hK61
  refine W.cond_true true (by kernel_rfl) rfl ?_
  refine W.seq fun K62 hK62 => ?_
  refine W.region ?_
  refine ops_run 2 (by kernel_rfl) ?_
  refine ops_R (runs_load (ad := ⟨b56, 1, none⟩) (v := (.int .i64 8)) (by kernel_rfl) (hs59.cellAt 0 rfl rfl)) ?_
  refine ops_run 1 (by kernel_rfl) ?_
  refine ops_R (runs_load (ad := ⟨b56, 2, none⟩) (v := (.int .i64 1)) (by kernel_rfl) (hs59.cellAt 0 rfl rfl)) ?_
  refine ops_run 1 (by kernel_rfl) ?_
  refine ops_val (v := .int .i64 (IntKind.i64.wrap ((IntKind.i64.wrap (264 + (IntKind.i64.wrap (208 * gw)))) + 8))) (v' := .int .i64 (IntKind.i64.wrap ((IntKind.i64.wrap (264 + (IntKind.i64.wrap (208 * gw)))) + 8))) (by kernel_rfl) rfl ?_
  refine ops_run 1 (by kernel_rfl) ?_
  refine ops_done (by kernel_rfl) ?_
  refine hK62 _ _ ?_
  clear hK62
  refine W.exit (exit_seq (exit_here ?_))
  refine hK52 _ _ ?_
  clear hK52
  refine W.region ?_
  refine ops_run 2 (by kernel_rfl) ?_
  refine ops_done (by kernel_rfl) ?_
  refine loopAt_next ?_
  refine loopAt_round ?_
  refine W.seq fun K63 hK63 => ?_
  refine W.region ?_
  refine ops_run 1 (by kernel_rfl) ?_
  refine ops_done (by kernel_rfl) ?_
  refine hK63 _ _ ?_
  clear hK63
  refine W.seq fun K64 hK64 => ?_
  refine W.cond_true true (by kernel_rfl) rfl ?_
  refine W.skip ?_
  refine hK64 _ _ ?_
  clear hK64
  refine W.seq fun K65 hK65 => ?_
  refine W.block ?_
  refine W.seq fun K66 hK66 => ?_
  refine W.region ?_
  refine ops_run 1 (by kernel_rfl) ?_
  refine ops_new (fun b => .pointer (some ⟨b, 0, none⟩)) (.cells [(.int .u8 0), (.int .i64 0), (.int .i64 0)].toArray 196 (0, 0)) hs59 (by kernel_rfl) (fun b69 w67 hs68 => ?_)
  refine ops_store (off := 0) (cs := [(.int .u8 0), (.int .i64 0), (.int .i64 0)]) (vs := [(.int .u8 7), (.int .i64 8), (.int .i64 1)]) hs68 (by kernel_rfl) (by simp) rfl (fun w70 hs71 => ?_)
  have hs72 : St B w [] w70 [blk b69 (.cells [(.int .u8 7), (.int .i64 8), (.int .i64 1)].toArray 196 (0, 0)), blk b56 (.cells [(.int .u8 6), (.int .i64 8), (.int .i64 1)].toArray 196 (0, 0)), blk b43 (.cells [(.int .u8 5), (.int .i64 208), (.int .i64 gw)].toArray 196 (0, 0)), blk b30 (.cells [(.int .u8 2), (.int .i64 64), (.int .i64 4)].toArray 196 (0, 0)), blk b17 (.cells [(.int .u8 1), (.int .i64 8), (.int .i64 1)].toArray 196 (0, 0)), blk b4 (.cells [(.int .i64 gw), (.int .i64 gi), (.int .i64 gb)].toArray 63 (0, 0))] := hs71
  refine ops_done (by kernel_rfl) ?_
  refine hK66 _ _ ?_
  clear hK66
  refine W.seq fun K73 hK73 => ?_
  refine W.seq fun K74 hK74 => ?_
  refine W.region ?_
  refine ops_run 1 (by kernel_rfl) ?_
  refine ops_R (runs_load (ad := ⟨b69, 0, none⟩) (v := (.int .u8 7)) (by kernel_rfl) (hs72.cellAt 0 rfl rfl)) ?_
  refine ops_run 2 (by kernel_rfl) ?_
  refine ops_done (by kernel_rfl) ?_
  refine hK74 _ _ ?_
  clear hK74
  refine W.cond_true true (by kernel_rfl) rfl ?_
  refine W.seq fun K75 hK75 => ?_
  refine W.region ?_
  refine ops_run 2 (by kernel_rfl) ?_
  refine ops_R (runs_load (ad := ⟨b69, 1, none⟩) (v := (.int .i64 8)) (by kernel_rfl) (hs72.cellAt 0 rfl rfl)) ?_
  refine ops_run 1 (by kernel_rfl) ?_
  refine ops_R (runs_load (ad := ⟨b69, 2, none⟩) (v := (.int .i64 1)) (by kernel_rfl) (hs72.cellAt 0 rfl rfl)) ?_
  refine ops_run 1 (by kernel_rfl) ?_
  refine ops_val (v := .int .i64 (IntKind.i64.wrap ((IntKind.i64.wrap ((IntKind.i64.wrap (264 + (IntKind.i64.wrap (208 * gw)))) + 8)) + 8))) (v' := .int .i64 (IntKind.i64.wrap ((IntKind.i64.wrap ((IntKind.i64.wrap (264 + (IntKind.i64.wrap (208 * gw)))) + 8)) + 8))) (by kernel_rfl) rfl ?_
  refine ops_run 1 (by kernel_rfl) ?_
  refine ops_done (by kernel_rfl) ?_
  refine hK75 _ _ ?_
  clear hK75
  refine W.exit (exit_seq (exit_here ?_))
  refine hK65 _ _ ?_
  clear hK65
  refine W.region ?_
  refine ops_run 2 (by kernel_rfl) ?_
  refine ops_done (by kernel_rfl) ?_
  refine loopAt_next ?_
  refine loopAt_round ?_
  refine W.seq fun K76 hK76 => ?_
  refine W.region ?_
  refine ops_run 1 (by kernel_rfl) ?_
  refine ops_done (by kernel_rfl) ?_
  refine hK76 _ _ ?_
  clear hK76
  refine W.seq fun K77 hK77 => ?_
  refine W.cond_true true (by kernel_rfl) rfl ?_
  refine W.skip ?_
  refine hK77 _ _ ?_
  clear hK77
  refine W.seq fun K78 hK78 => ?_
  refine W.block ?_
  refine W.seq fun K79 hK79 => ?_
  refine W.region ?_
  refine ops_run 1 (by kernel_rfl) ?_
  refine ops_new (fun b => .pointer (some ⟨b, 0, none⟩)) (.cells [(.int .u8 0), (.int .i64 0), (.int .i64 0)].toArray 196 (0, 0)) hs72 (by kernel_rfl) (fun b82 w80 hs81 => ?_)
  refine ops_store (off := 0) (cs := [(.int .u8 0), (.int .i64 0), (.int .i64 0)]) (vs := [(.int .u8 8), (.int .i64 16), (.int .i64 gi)]) hs81 (by kernel_rfl) (by simp) rfl (fun w83 hs84 => ?_)
  have hs85 : St B w [] w83 [blk b82 (.cells [(.int .u8 8), (.int .i64 16), (.int .i64 gi)].toArray 196 (0, 0)), blk b69 (.cells [(.int .u8 7), (.int .i64 8), (.int .i64 1)].toArray 196 (0, 0)), blk b56 (.cells [(.int .u8 6), (.int .i64 8), (.int .i64 1)].toArray 196 (0, 0)), blk b43 (.cells [(.int .u8 5), (.int .i64 208), (.int .i64 gw)].toArray 196 (0, 0)), blk b30 (.cells [(.int .u8 2), (.int .i64 64), (.int .i64 4)].toArray 196 (0, 0)), blk b17 (.cells [(.int .u8 1), (.int .i64 8), (.int .i64 1)].toArray 196 (0, 0)), blk b4 (.cells [(.int .i64 gw), (.int .i64 gi), (.int .i64 gb)].toArray 63 (0, 0))] := hs84
  refine ops_done (by kernel_rfl) ?_
  refine hK79 _ _ ?_
  clear hK79
  refine W.seq fun K86 hK86 => ?_
  refine W.seq fun K87 hK87 => ?_
  refine W.region ?_
  refine ops_run 1 (by kernel_rfl) ?_
  refine ops_R (runs_load (ad := ⟨b82, 0, none⟩) (v := (.int .u8 8)) (by kernel_rfl) (hs85.cellAt 0 rfl rfl)) ?_
  refine ops_run 2 (by kernel_rfl) ?_
  refine ops_done (by kernel_rfl) ?_
  refine hK87 _ _ ?_
  clear hK87
  refine W.cond_true true (by kernel_rfl) rfl ?_
  refine W.seq fun K88 hK88 => ?_
  refine W.region ?_
  refine ops_run 2 (by kernel_rfl) ?_
  refine ops_R (runs_load (ad := ⟨b82, 1, none⟩) (v := (.int .i64 16)) (by kernel_rfl) (hs85.cellAt 0 rfl rfl)) ?_
  refine ops_run 1 (by kernel_rfl) ?_
  refine ops_R (runs_load (ad := ⟨b82, 2, none⟩) (v := (.int .i64 gi)) (by kernel_rfl) (hs85.cellAt 0 rfl rfl)) ?_
  refine ops_val (v := .int .i64 (IntKind.i64.wrap (16 * gi))) (v' := .int .i64 (IntKind.i64.wrap (16 * gi))) (by kernel_rfl) rfl ?_
  refine ops_val (v := .int .i64 (IntKind.i64.wrap ((IntKind.i64.wrap ((IntKind.i64.wrap ((IntKind.i64.wrap (264 + (IntKind.i64.wrap (208 * gw)))) + 8)) + 8)) + (IntKind.i64.wrap (16 * gi))))) (v' := .int .i64 (IntKind.i64.wrap ((IntKind.i64.wrap ((IntKind.i64.wrap ((IntKind.i64.wrap (264 + (IntKind.i64.wrap (208 * gw)))) + 8)) + 8)) + (IntKind.i64.wrap (16 * gi))))) (by kernel_rfl) rfl ?_
  refine ops_run 1 (by kernel_rfl) ?_
  refine ops_done (by kernel_rfl) ?_
  refine hK88 _ _ ?_
  clear hK88
  refine W.exit (exit_seq (exit_here ?_))
  refine hK78 _ _ ?_
  clear hK78
  refine W.region ?_
  refine ops_run 2 (by kernel_rfl) ?_
  refine ops_done (by kernel_rfl) ?_
  refine loopAt_next ?_
  refine loopAt_round ?_
  refine W.seq fun K89 hK89 => ?_
  refine W.region ?_
  refine ops_run 1 (by kernel_rfl) ?_
  refine ops_done (by kernel_rfl) ?_
  refine hK89 _ _ ?_
  clear hK89
  refine W.seq fun K90 hK90 => ?_
  refine W.cond_true true (by kernel_rfl) rfl ?_
  refine W.skip ?_
  refine hK90 _ _ ?_
  clear hK90
  refine W.seq fun K91 hK91 => ?_
  refine W.block ?_
  refine W.seq fun K92 hK92 => ?_
  refine W.region ?_
  refine ops_run 1 (by kernel_rfl) ?_
  refine ops_new (fun b => .pointer (some ⟨b, 0, none⟩)) (.cells [(.int .u8 0), (.int .i64 0), (.int .i64 0)].toArray 196 (0, 0)) hs85 (by kernel_rfl) (fun b95 w93 hs94 => ?_)
  refine ops_store (off := 0) (cs := [(.int .u8 0), (.int .i64 0), (.int .i64 0)]) (vs := [(.int .u8 9), (.int .i64 8), (.int .i64 gb)]) hs94 (by kernel_rfl) (by simp) rfl (fun w96 hs97 => ?_)
  have hs98 : St B w [] w96 [blk b95 (.cells [(.int .u8 9), (.int .i64 8), (.int .i64 gb)].toArray 196 (0, 0)), blk b82 (.cells [(.int .u8 8), (.int .i64 16), (.int .i64 gi)].toArray 196 (0, 0)), blk b69 (.cells [(.int .u8 7), (.int .i64 8), (.int .i64 1)].toArray 196 (0, 0)), blk b56 (.cells [(.int .u8 6), (.int .i64 8), (.int .i64 1)].toArray 196 (0, 0)), blk b43 (.cells [(.int .u8 5), (.int .i64 208), (.int .i64 gw)].toArray 196 (0, 0)), blk b30 (.cells [(.int .u8 2), (.int .i64 64), (.int .i64 4)].toArray 196 (0, 0)), blk b17 (.cells [(.int .u8 1), (.int .i64 8), (.int .i64 1)].toArray 196 (0, 0)), blk b4 (.cells [(.int .i64 gw), (.int .i64 gi), (.int .i64 gb)].toArray 63 (0, 0))] := hs97
  refine ops_done (by kernel_rfl) ?_
  refine hK92 _ _ ?_
  clear hK92
  refine W.seq fun K99 hK99 => ?_
  refine W.seq fun K100 hK100 => ?_
  refine W.region ?_
  refine ops_run 1 (by kernel_rfl) ?_
  refine ops_R (runs_load (ad := ⟨b95, 0, none⟩) (v := (.int .u8 9)) (by kernel_rfl) (hs98.cellAt 0 rfl rfl)) ?_
  refine ops_run 2 (by kernel_rfl) ?_
  refine ops_done (by kernel_rfl) ?_
  refine hK100 _ _ ?_
  clear hK100
  refine W.cond_false false (by kernel_rfl) rfl ?_
  refine W.skip ?_
  refine hK99 _ _ ?_
  clear hK99
  refine W.seq fun K101 hK101 => ?_
  refine W.seq fun K102 hK102 => ?_
  refine W.region ?_
  refine ops_R (runs_loadAgg (ad := ⟨b4, 0, none⟩) (cs := [(.int .i64 gw), (.int .i64 gi), (.int .i64 gb)]) (by kernel_rfl) (cells_sub (hs98.heapAt 7 rfl) rfl)) ?_
  refine ops_call0 hs98 (by kernel_rfl) (may_spec (gw := gw) (gi := gi) (gb := gb) B _) ?_
  rintro _ _ w103 ⟨rfl, rfl⟩ hs104
  have hs105 := St.ap0 hs104
  refine ops_run 1 (by kernel_rfl) ?_
  rcases Bool.eq_false_or_eq_true (decide (May gw gi gb)) with h106 | h106
  ·
    have h106p : May gw gi gb := of_decide_eq_true h106
    refine ops_set 28 (v := .bool true) (eq_bool_of (by kernel_rfl) h106) ?_
    refine ops_set 27 (v := .bool true) (eq_bool_of (by kernel_rfl) h106) ?_
    refine ops_run 2 (by kernel_rfl) ?_
    refine ops_R (runs_load (ad := ⟨b95, 2, none⟩) (v := (.int .i64 gb)) (by kernel_rfl) (hs105.cellAt 0 rfl rfl)) ?_
    refine ops_val (v := .int .i64 (IntKind.i64.wrap (gb - 1))) (v' := .int .i64 (IntKind.i64.wrap (gb - 1))) (by kernel_rfl) rfl ?_
    refine ops_call0 hs105 (by kernel_rfl) (within_spec (n_ := n_) (f_ := 0) (t_ := (IntKind.i64.wrap (gb - 1))) B _) ?_
    rintro _ _ w107 ⟨rfl, rfl⟩ hs108
    have hs109 := St.ap0 hs108
    refine ops_run 1 (by kernel_rfl) ?_
    refine ops_done (by kernel_rfl) ?_
    refine hK102 _ _ ?_
    clear hK102
    refine W.cond (decide (0 ≤ n_ ∧ n_ ≤ (IntKind.i64.wrap (gb - 1)))) (by kernel_rfl) (fun h110 => ?_) (fun h110 => ?_)
    ·
      have h110p : 0 ≤ n_ ∧ n_ ≤ (IntKind.i64.wrap (gb - 1)) := of_decide_eq_true h110
      refine W.seq fun K111 hK111 => ?_
      refine W.region ?_
      refine ops_run 2 (by kernel_rfl) ?_
      refine ops_R (runs_load (ad := ⟨b95, 1, none⟩) (v := (.int .i64 8)) (by kernel_rfl) (hs109.cellAt 0 rfl rfl)) ?_
      refine ops_run 1 (by kernel_rfl) ?_
      refine ops_val (v := .int .i64 (IntKind.i64.wrap (8 * n_))) (v' := .int .i64 (IntKind.i64.wrap (8 * n_))) (by kernel_rfl) rfl ?_
      refine ops_val (v := .int .i64 (IntKind.i64.wrap ((IntKind.i64.wrap ((IntKind.i64.wrap ((IntKind.i64.wrap ((IntKind.i64.wrap (264 + (IntKind.i64.wrap (208 * gw)))) + 8)) + 8)) + (IntKind.i64.wrap (16 * gi)))) + (IntKind.i64.wrap (8 * n_))))) (v' := .int .i64 (IntKind.i64.wrap ((IntKind.i64.wrap ((IntKind.i64.wrap ((IntKind.i64.wrap ((IntKind.i64.wrap (264 + (IntKind.i64.wrap (208 * gw)))) + 8)) + 8)) + (IntKind.i64.wrap (16 * gi)))) + (IntKind.i64.wrap (8 * n_))))) (by kernel_rfl) rfl ?_
      refine ops_run 1 (by kernel_rfl) ?_
      refine ops_done (by kernel_rfl) ?_
      refine hK111 _ _ ?_
      clear hK111
      refine W.ret (ret_seq (ret_block (ret_seq (ret_seq (ret_block (ret_seq ?_))))))
      have hs112 := St.tk0 hs109
      refine ret_of (.int .i64 (IntKind.i64.wrap ((IntKind.i64.wrap ((IntKind.i64.wrap ((IntKind.i64.wrap ((IntKind.i64.wrap (264 + (IntKind.i64.wrap (208 * gw)))) + 8)) + 8)) + (IntKind.i64.wrap (16 * gi)))) + (IntKind.i64.wrap (8 * n_))))) (by kernel_rfl) ⟨_, ⟨congrArg (Value.int .i64) (by first | contradiction | (simp only [placeOf, if_pos hm]; split <;> omega) | (simp only [placeOf, if_neg hm]; done) | (simp only [placeOf, if_pos hm]; omega)), rfl⟩, hs112⟩
    ·
      have h110p : ¬ (0 ≤ n_ ∧ n_ ≤ (IntKind.i64.wrap (gb - 1))) := of_decide_eq_false h110
      refine W.skip ?_
      refine hK101 _ _ ?_
      clear hK101
      refine W.exit (exit_block (by decide) (exit_seq (exit_seq (exit_here ?_))))
      refine hK6 _ _ ?_
      clear hK6
      refine W.seq fun K113 hK113 => ?_
      refine W.region ?_
      refine ops_run 1 (by kernel_rfl) ?_
      refine ops_done (by kernel_rfl) ?_
      refine hK113 _ _ ?_
      clear hK113
      refine W.ret ?_
      have hs114 := St.tk0 hs109
      refine ret_of (.int .i64 (-1)) (by kernel_rfl) ⟨_, ⟨congrArg (Value.int .i64) (by first | contradiction | (simp only [placeOf, if_pos hm]; split <;> omega) | (simp only [placeOf, if_neg hm]; done) | (simp only [placeOf, if_pos hm]; omega)), rfl⟩, hs114⟩
  ·
    have h106p : ¬ (May gw gi gb) := of_decide_eq_false h106
    refine ops_set 28 (v := .bool false) (eq_bool_of (by kernel_rfl) h106) ?_
    refine ops_set 27 (v := .bool false) (eq_bool_of (by kernel_rfl) h106) ?_
    refine ops_run 6 (by kernel_rfl) ?_
    refine ops_done (by kernel_rfl) ?_
    refine hK102 _ _ ?_
    clear hK102
    refine W.cond_false false (by kernel_rfl) rfl ?_
    refine W.skip ?_
    refine hK101 _ _ ?_
    clear hK101
    refine W.exit (exit_block (by decide) (exit_seq (exit_seq (exit_here ?_))))
    refine hK6 _ _ ?_
    clear hK6
    refine W.seq fun K115 hK115 => ?_
    refine W.region ?_
    refine ops_run 1 (by kernel_rfl) ?_
    refine ops_done (by kernel_rfl) ?_
    refine hK115 _ _ ?_
    clear hK115
    refine W.ret ?_
    have hs116 := St.tk0 hs105
    refine ret_of (.int .i64 (-1)) (by kernel_rfl) ⟨_, ⟨congrArg (Value.int .i64) (by first | contradiction | (simp only [placeOf, if_pos hm]; split <;> omega) | (simp only [placeOf, if_neg hm]; done) | (simp only [placeOf, if_pos hm]; omega)), rfl⟩, hs116⟩

theorem place9_spec {gw gi gb n_ : Int} (B : Nat) (w : World) : Spec Tryd.prog 134 #[(.agg #[(.int .i64 gw), (.int .i64 gi), (.int .i64 gb)]), (.int .u8 9), (.int .i64 n_)] B w [] (fun v H' => v = .int .i64 (placeOf 9 gw gi gb n_) ∧ H' = []) := by
  by_cases hm : May gw gi gb
  · exact place9_may B w hm
  · exact place9_not B w hm

set_option maxRecDepth 20000 in
theorem inodeat_spec {gw gi gb n_ : Int} (B : Nat) (w : World) : Spec Tryd.prog 132 #[(.agg #[(.int .i64 gw), (.int .i64 gi), (.int .i64 gb)]), (.int .i64 n_)] B w [] (fun v H' => v = .int .i64 (placeOf 8 gw gi gb n_) ∧ H' = []) := by
  refine spec_Q Tryd.func132 rfl fun hs => ?_
  refine W.seq fun K1 hK1 => ?_
  refine W.region ?_
  refine ops_new (fun b => .pointer (some ⟨b, 0, none⟩)) (.cells [(.int .i64 gw), (.int .i64 gi), (.int .i64 gb)].toArray 63 (0, 0)) hs (by kernel_rfl) (fun b4 w2 hs3 => ?_)
  refine ops_run 1 (by kernel_rfl) ?_
  refine ops_done (by kernel_rfl) ?_
  refine hK1 _ _ ?_
  clear hK1
  refine W.seq fun K5 hK5 => ?_
  refine W.region ?_
  refine ops_R (runs_loadAgg (ad := ⟨b4, 0, none⟩) (cs := [(.int .i64 gw), (.int .i64 gi), (.int .i64 gb)]) (by kernel_rfl) (cells_sub (hs3.heapAt 0 rfl) rfl)) ?_
  refine ops_run 1 (by kernel_rfl) ?_
  refine ops_call0 hs3 (by kernel_rfl) (place8_spec (gw := gw) (gi := gi) (gb := gb) (n_ := n_) B _) ?_
  rintro _ _ w6 ⟨rfl, rfl⟩ hs7
  have hs8 := St.ap0 hs7
  refine ops_run 1 (by kernel_rfl) ?_
  refine ops_done (by kernel_rfl) ?_
  refine hK5 _ _ ?_
  clear hK5
  refine W.ret ?_
  have hs9 := St.tk0 hs8
  refine ret_of (.int .i64 (placeOf 8 gw gi gb n_)) (by kernel_rfl) ⟨_, ⟨rfl, rfl⟩, hs9⟩

set_option maxRecDepth 20000 in
theorem areas_spec  (B : Nat) (w : World) : Spec Tryd.prog 150 #[] B w [] (fun v H' => v = .int .i64 264 ∧ H' = []) := by
  refine spec_Q Tryd.func150 rfl fun hs => ?_
  refine W.seq fun K1 hK1 => ?_
  refine W.region ?_
  refine ops_run 1 (by kernel_rfl) ?_
  refine ops_done (by kernel_rfl) ?_
  refine hK1 _ _ ?_
  clear hK1
  refine W.seq fun K2 hK2 => ?_
  refine W.region ?_
  refine ops_run 1 (by kernel_rfl) ?_
  refine ops_done (by kernel_rfl) ?_
  refine hK2 _ _ ?_
  clear hK2
  refine W.ret ?_
  refine ret_of (.int .i64 264) (by kernel_rfl) ⟨_, ⟨rfl, rfl⟩, hs⟩

set_option maxRecDepth 20000 in
theorem maps_spec {gw gi gb : Int} (B : Nat) (w : World) (hm : May gw gi gb) : Spec Tryd.prog 149 #[(.agg #[(.int .i64 gw), (.int .i64 gi), (.int .i64 gb)])] B w [] (fun v H' => v = .int .i64 (264 + 208 * gw) ∧ H' = []) := by
  refine spec_Q Tryd.func149 rfl fun hs => ?_
  have hm_ : (1 ≤ gw ∧ gw ≤ 4) ∧ (2 ≤ gi ∧ gi ≤ 64) ∧ (2 ≤ gb ∧ gb ≤ 512) := hm
  refine W.seq fun K1 hK1 => ?_
  refine W.region ?_
  refine ops_new (fun b => .pointer (some ⟨b, 0, none⟩)) (.cells [(.int .i64 gw), (.int .i64 gi), (.int .i64 gb)].toArray 88 (0, 0)) hs (by kernel_rfl) (fun b4 w2 hs3 => ?_)
  refine ops_run 1 (by kernel_rfl) ?_
  refine ops_done (by kernel_rfl) ?_
  refine hK1 _ _ ?_
  clear hK1
  refine W.seq fun K5 hK5 => ?_
  have hs6 := hs3.drew
  refine W.regionD [(0, 0), (0, 0), (2, 2), (4, 4), (9, 9), (31, 16)] (fun w_ => St B w [] w_ [blk b4 (.cells [(.int .i64 gw), (.int .i64 gi), (.int .i64 gb)].toArray 88 (0, 0))]) (by kernel_rfl) hs6 ?_
  refine any_val (v := (.pointer (some ⟨b4, 0, none⟩))) (v' := (.pointer (some ⟨b4, 0, none⟩))) 1 (by kernel_rfl) (fun _ => by kernel_rfl) rfl hs6 ?_
  refine any_R 2 (by kernel_rfl) (fun _ hS_ => runs_load (ad := ⟨b4, 0, none⟩) (v := (.int .i64 gw)) (by kernel_rfl) (hS_.cellAt 0 rfl rfl)) hs6 ?_
  refine any_val (v := .int .i64 (IntKind.i64.wrap (208 * gw))) (v' := .int .i64 (208 * gw)) 3 (by kernel_rfl) (fun _ => by kernel_rfl) (congrArg (Value.int .i64) (wrap_i64 (by omega) (by omega))) hs6 ?_
  refine any_step 0 (by kernel_rfl) (by kernel_rfl) ?_
  refine ops_call0 hs6 (by kernel_rfl) (areas_spec B _) ?_
  rintro _ _ w7 ⟨rfl, rfl⟩ hs8
  have hs9 := St.ap0 hs8
  refine ops_done (by kernel_rfl) ⟨hs9, ?_⟩
  refine any_val (v := .int .i64 (IntKind.i64.wrap (264 + (208 * gw)))) (v' := .int .i64 (264 + (208 * gw))) 4 (by kernel_rfl) (fun _ => by kernel_rfl) (congrArg (Value.int .i64) (wrap_i64 (by omega) (by omega))) hs9 ?_
  refine any_val (v := (.int .i64 (264 + (208 * gw)))) (v' := (.int .i64 (264 + (208 * gw)))) 5 (by kernel_rfl) (fun _ => by kernel_rfl) rfl hs9 ?_
  refine any_done (by kernel_rfl) ?_
  refine hK5 _ _ ?_
  clear hK5
  refine W.ret ?_
  have hs10 := St.tk0 hs9
  refine ret_of (.int .i64 (264 + (208 * gw))) (by kernel_rfl) ⟨_, ⟨rfl, rfl⟩, hs10⟩

set_option maxRecDepth 20000 in
theorem rwords_spec {gw gi gb : Int} (B : Nat) (w : World) : Spec Tryd.prog 116 #[(.agg #[(.int .i64 gw), (.int .i64 gi), (.int .i64 gb)])] B w [] (fun v H' => v = .int .i64 (wordsOf gw gi gb) ∧ H' = []) := by
  refine spec_Q Tryd.func116 rfl fun hs => ?_
  refine W.seq fun K1 hK1 => ?_
  refine W.region ?_
  refine ops_new (fun b => .pointer (some ⟨b, 0, none⟩)) (.cells [(.int .i64 gw), (.int .i64 gi), (.int .i64 gb)].toArray 88 (0, 0)) hs (by kernel_rfl) (fun b4 w2 hs3 => ?_)
  refine ops_run 1 (by kernel_rfl) ?_
  refine ops_done (by kernel_rfl) ?_
  refine hK1 _ _ ?_
  clear hK1
  refine W.seq fun K5 hK5 => ?_
  refine W.seq fun K6 hK6 => ?_
  refine W.region ?_
  refine ops_R (runs_loadAgg (ad := ⟨b4, 0, none⟩) (cs := [(.int .i64 gw), (.int .i64 gi), (.int .i64 gb)]) (by kernel_rfl) (cells_sub (hs3.heapAt 0 rfl) rfl)) ?_
  refine ops_call0 hs3 (by kernel_rfl) (rmay_spec (gw := gw) (gi := gi) (gb := gb) B _) ?_
  rintro _ _ w7 ⟨rfl, rfl⟩ hs8
  have hs9 := St.ap0 hs8
  refine ops_run 1 (by kernel_rfl) ?_
  refine ops_done (by kernel_rfl) ?_
  refine hK6 _ _ ?_
  clear hK6
  refine W.cond (!(decide (May gw gi gb))) (by kernel_rfl) (fun h10 => ?_) (fun h10 => ?_)
  ·
    have h10p : ¬ (May gw gi gb) := of_decide_eq_false (bnot_true h10)
    have hm : ¬ May gw gi gb := h10p
    refine W.seq fun K11 hK11 => ?_
    refine W.region ?_
    refine ops_run 1 (by kernel_rfl) ?_
    refine ops_done (by kernel_rfl) ?_
    refine hK11 _ _ ?_
    clear hK11
    refine W.ret (ret_seq ?_)
    have hs12 := St.tk0 hs9
    refine ret_of (.int .i64 0) (by kernel_rfl) ⟨_, ⟨congrArg (Value.int .i64) (by first | contradiction | (simp only [wordsOf, if_pos hm]; omega) | (simp only [wordsOf, if_neg hm]; done)), rfl⟩, hs12⟩
  ·
    have h10p : May gw gi gb := of_decide_eq_true (bnot_false h10)
    have hm : May gw gi gb := h10p
    have hm_ : (1 ≤ gw ∧ gw ≤ 4) ∧ (2 ≤ gi ∧ gi ≤ 64) ∧ (2 ≤ gb ∧ gb ≤ 512) := hm
    refine W.skip ?_
    refine hK5 _ _ ?_
    clear hK5
    refine W.seq fun K13 hK13 => ?_
    have hs14 := hs9.drew
    refine W.regionD [(0, 0), (1, 1), (2, 2), (0, 0), (8, 8), (16, 16), (36, 36), (0, 0), (128, 128), (256, 256), (576, 576), (2047, 1024)] (fun w_ => St B w [] w_ [blk b4 (.cells [(.int .i64 gw), (.int .i64 gi), (.int .i64 gb)].toArray 88 (0, 0))]) (by kernel_rfl) hs14 ?_
    refine any_R 0 (by kernel_rfl) (fun _ hS_ => runs_loadAgg (ad := ⟨b4, 0, none⟩) (cs := [(.int .i64 gw), (.int .i64 gi), (.int .i64 gb)]) (by kernel_rfl) (cells_sub (hS_.heapAt 0 rfl) rfl)) hs14 ?_
    refine any_val (v := (.pointer (some ⟨b4, 1, none⟩))) (v' := (.pointer (some ⟨b4, 1, none⟩))) 3 (by kernel_rfl) (fun _ => by kernel_rfl) rfl hs14 ?_
    refine any_R 4 (by kernel_rfl) (fun _ hS_ => runs_load (ad := ⟨b4, 1, none⟩) (v := (.int .i64 gi)) (by kernel_rfl) (hS_.cellAt 0 rfl rfl)) hs14 ?_
    refine any_val (v := .int .i64 (IntKind.i64.wrap (16 * gi))) (v' := .int .i64 (16 * gi)) 5 (by kernel_rfl) (fun _ => by kernel_rfl) (congrArg (Value.int .i64) (wrap_i64 (by omega) (by omega))) hs14 ?_
    refine any_val (v := (.pointer (some ⟨b4, 2, none⟩))) (v' := (.pointer (some ⟨b4, 2, none⟩))) 7 (by kernel_rfl) (fun _ => by kernel_rfl) rfl hs14 ?_
    refine any_R 8 (by kernel_rfl) (fun _ hS_ => runs_load (ad := ⟨b4, 2, none⟩) (v := (.int .i64 gb)) (by kernel_rfl) (hS_.cellAt 0 rfl rfl)) hs14 ?_
    refine any_val (v := .int .i64 (IntKind.i64.wrap (8 * gb))) (v' := .int .i64 (8 * gb)) 9 (by kernel_rfl) (fun _ => by kernel_rfl) (congrArg (Value.int .i64) (wrap_i64 (by omega) (by omega))) hs14 ?_
    refine any_step 1 (by kernel_rfl) (by kernel_rfl) ?_
    refine ops_call0 hs14 (by kernel_rfl) (maps_spec (hm := hm) (gw := gw) (gi := gi) (gb := gb) B _) ?_
    rintro _ _ w15 ⟨rfl, rfl⟩ hs16
    have hs17 := St.ap0 hs16
    refine ops_done (by kernel_rfl) ⟨hs17, ?_⟩
    refine any_val (v := .int .i64 (IntKind.i64.wrap ((264 + 208 * gw) + 16))) (v' := .int .i64 ((264 + 208 * gw) + 16)) 2 (by kernel_rfl) (fun _ => by kernel_rfl) (congrArg (Value.int .i64) (wrap_i64 (by omega) (by omega))) hs17 ?_
    refine any_val (v := .int .i64 (IntKind.i64.wrap (((264 + 208 * gw) + 16) + (16 * gi)))) (v' := .int .i64 (((264 + 208 * gw) + 16) + (16 * gi))) 6 (by kernel_rfl) (fun _ => by kernel_rfl) (congrArg (Value.int .i64) (wrap_i64 (by omega) (by omega))) hs17 ?_
    refine any_val (v := .int .i64 (IntKind.i64.wrap ((((264 + 208 * gw) + 16) + (16 * gi)) + (8 * gb)))) (v' := .int .i64 ((((264 + 208 * gw) + 16) + (16 * gi)) + (8 * gb))) 10 (by kernel_rfl) (fun _ => by kernel_rfl) (congrArg (Value.int .i64) (wrap_i64 (by omega) (by omega))) hs17 ?_
    refine any_val (v := (.int .i64 ((((264 + 208 * gw) + 16) + (16 * gi)) + (8 * gb)))) (v' := (.int .i64 ((((264 + 208 * gw) + 16) + (16 * gi)) + (8 * gb)))) 11 (by kernel_rfl) (fun _ => by kernel_rfl) rfl hs17 ?_
    refine any_done (by kernel_rfl) ?_
    refine hK13 _ _ ?_
    clear hK13
    refine W.ret ?_
    have hs18 := St.tk0 hs17
    refine ret_of (.int .i64 ((((264 + 208 * gw) + 16) + (16 * gi)) + (8 * gb))) (by kernel_rfl) ⟨_, ⟨congrArg (Value.int .i64) (by first | contradiction | (simp only [wordsOf, if_pos hm]; omega) | (simp only [wordsOf, if_neg hm]; done)), rfl⟩, hs18⟩

set_option maxRecDepth 20000 in
theorem rmapat_spec {gw gi gb : Int} (B : Nat) (w : World) : Spec Tryd.prog 118 #[(.agg #[(.int .i64 gw), (.int .i64 gi), (.int .i64 gb)])] B w [] (fun v H' => v = .int .i64 (placeOf 6 gw gi gb 0) ∧ H' = []) := by
  refine spec_Q Tryd.func118 rfl fun hs => ?_
  refine W.seq fun K1 hK1 => ?_
  refine W.region ?_
  refine ops_new (fun b => .pointer (some ⟨b, 0, none⟩)) (.cells [(.int .i64 gw), (.int .i64 gi), (.int .i64 gb)].toArray 88 (0, 0)) hs (by kernel_rfl) (fun b4 w2 hs3 => ?_)
  refine ops_run 1 (by kernel_rfl) ?_
  refine ops_done (by kernel_rfl) ?_
  refine hK1 _ _ ?_
  clear hK1
  refine W.seq fun K5 hK5 => ?_
  refine W.seq fun K6 hK6 => ?_
  refine W.region ?_
  refine ops_R (runs_loadAgg (ad := ⟨b4, 0, none⟩) (cs := [(.int .i64 gw), (.int .i64 gi), (.int .i64 gb)]) (by kernel_rfl) (cells_sub (hs3.heapAt 0 rfl) rfl)) ?_
  refine ops_call0 hs3 (by kernel_rfl) (rmay_spec (gw := gw) (gi := gi) (gb := gb) B _) ?_
  rintro _ _ w7 ⟨rfl, rfl⟩ hs8
  have hs9 := St.ap0 hs8
  refine ops_run 1 (by kernel_rfl) ?_
  refine ops_done (by kernel_rfl) ?_
  refine hK6 _ _ ?_
  clear hK6
  refine W.cond (!(decide (May gw gi gb))) (by kernel_rfl) (fun h10 => ?_) (fun h10 => ?_)
  ·
    have h10p : ¬ (May gw gi gb) := of_decide_eq_false (bnot_true h10)
    have hm : ¬ May gw gi gb := h10p
    refine W.seq fun K11 hK11 => ?_
    refine W.region ?_
    refine ops_run 1 (by kernel_rfl) ?_
    refine ops_done (by kernel_rfl) ?_
    refine hK11 _ _ ?_
    clear hK11
    refine W.ret (ret_seq ?_)
    have hs12 := St.tk0 hs9
    refine ret_of (.int .i64 (-1)) (by kernel_rfl) ⟨_, ⟨congrArg (Value.int .i64) (by first | contradiction | (simp only [placeOf, if_pos hm]; split <;> omega) | (simp only [placeOf, if_neg hm]; done) | (simp only [placeOf, if_pos hm]; omega)), rfl⟩, hs12⟩
  ·
    have h10p : May gw gi gb := of_decide_eq_true (bnot_false h10)
    have hm : May gw gi gb := h10p
    have hm_ : (1 ≤ gw ∧ gw ≤ 4) ∧ (2 ≤ gi ∧ gi ≤ 64) ∧ (2 ≤ gb ∧ gb ≤ 512) := hm
    refine W.skip ?_
    refine hK5 _ _ ?_
    clear hK5
    refine W.seq fun K13 hK13 => ?_
    refine W.region ?_
    refine ops_R (runs_loadAgg (ad := ⟨b4, 0, none⟩) (cs := [(.int .i64 gw), (.int .i64 gi), (.int .i64 gb)]) (by kernel_rfl) (cells_sub (hs9.heapAt 0 rfl) rfl)) ?_
    refine ops_call0 hs9 (by kernel_rfl) (maps_spec (hm := hm) (gw := gw) (gi := gi) (gb := gb) B _) ?_
    rintro _ _ w14 ⟨rfl, rfl⟩ hs15
    have hs16 := St.ap0 hs15
    refine ops_run 1 (by kernel_rfl) ?_
    refine ops_done (by kernel_rfl) ?_
    refine hK13 _ _ ?_
    clear hK13
    refine W.ret ?_
    have hs17 := St.tk0 hs16
    refine ret_of (.int .i64 (264 + 208 * gw)) (by kernel_rfl) ⟨_, ⟨congrArg (Value.int .i64) (by first | contradiction | (simp only [placeOf, if_pos hm]; split <;> omega) | (simp only [placeOf, if_neg hm]; done) | (simp only [placeOf, if_pos hm]; omega)), rfl⟩, hs17⟩

set_option maxRecDepth 20000 in
theorem rbmapat_spec {gw gi gb : Int} (B : Nat) (w : World) : Spec Tryd.prog 128 #[(.agg #[(.int .i64 gw), (.int .i64 gi), (.int .i64 gb)])] B w [] (fun v H' => v = .int .i64 (placeOf 7 gw gi gb 0) ∧ H' = []) := by
  refine spec_Q Tryd.func128 rfl fun hs => ?_
  refine W.seq fun K1 hK1 => ?_
  refine W.region ?_
  refine ops_new (fun b => .pointer (some ⟨b, 0, none⟩)) (.cells [(.int .i64 gw), (.int .i64 gi), (.int .i64 gb)].toArray 88 (0, 0)) hs (by kernel_rfl) (fun b4 w2 hs3 => ?_)
  refine ops_run 1 (by kernel_rfl) ?_
  refine ops_done (by kernel_rfl) ?_
  refine hK1 _ _ ?_
  clear hK1
  refine W.seq fun K5 hK5 => ?_
  refine W.seq fun K6 hK6 => ?_
  refine W.region ?_
  refine ops_R (runs_loadAgg (ad := ⟨b4, 0, none⟩) (cs := [(.int .i64 gw), (.int .i64 gi), (.int .i64 gb)]) (by kernel_rfl) (cells_sub (hs3.heapAt 0 rfl) rfl)) ?_
  refine ops_call0 hs3 (by kernel_rfl) (rmay_spec (gw := gw) (gi := gi) (gb := gb) B _) ?_
  rintro _ _ w7 ⟨rfl, rfl⟩ hs8
  have hs9 := St.ap0 hs8
  refine ops_run 1 (by kernel_rfl) ?_
  refine ops_done (by kernel_rfl) ?_
  refine hK6 _ _ ?_
  clear hK6
  refine W.cond (!(decide (May gw gi gb))) (by kernel_rfl) (fun h10 => ?_) (fun h10 => ?_)
  ·
    have h10p : ¬ (May gw gi gb) := of_decide_eq_false (bnot_true h10)
    have hm : ¬ May gw gi gb := h10p
    refine W.seq fun K11 hK11 => ?_
    refine W.region ?_
    refine ops_run 1 (by kernel_rfl) ?_
    refine ops_done (by kernel_rfl) ?_
    refine hK11 _ _ ?_
    clear hK11
    refine W.ret (ret_seq ?_)
    have hs12 := St.tk0 hs9
    refine ret_of (.int .i64 (-1)) (by kernel_rfl) ⟨_, ⟨congrArg (Value.int .i64) (by first | contradiction | (simp only [placeOf, if_pos hm]; split <;> omega) | (simp only [placeOf, if_neg hm]; done) | (simp only [placeOf, if_pos hm]; omega)), rfl⟩, hs12⟩
  ·
    have h10p : May gw gi gb := of_decide_eq_true (bnot_false h10)
    have hm : May gw gi gb := h10p
    have hm_ : (1 ≤ gw ∧ gw ≤ 4) ∧ (2 ≤ gi ∧ gi ≤ 64) ∧ (2 ≤ gb ∧ gb ≤ 512) := hm
    refine W.skip ?_
    refine hK5 _ _ ?_
    clear hK5
    refine W.seq fun K13 hK13 => ?_
    refine W.region ?_
    refine ops_R (runs_loadAgg (ad := ⟨b4, 0, none⟩) (cs := [(.int .i64 gw), (.int .i64 gi), (.int .i64 gb)]) (by kernel_rfl) (cells_sub (hs9.heapAt 0 rfl) rfl)) ?_
    refine ops_call0 hs9 (by kernel_rfl) (maps_spec (hm := hm) (gw := gw) (gi := gi) (gb := gb) B _) ?_
    rintro _ _ w14 ⟨rfl, rfl⟩ hs15
    have hs16 := St.ap0 hs15
    refine ops_val (v := .int .i64 (IntKind.i64.wrap ((264 + 208 * gw) + 8))) (v' := .int .i64 ((264 + 208 * gw) + 8)) (by kernel_rfl) (congrArg (Value.int .i64) (wrap_i64 (by omega) (by omega))) ?_
    refine ops_run 1 (by kernel_rfl) ?_
    refine ops_done (by kernel_rfl) ?_
    refine hK13 _ _ ?_
    clear hK13
    refine W.ret ?_
    have hs17 := St.tk0 hs16
    refine ret_of (.int .i64 ((264 + 208 * gw) + 8)) (by kernel_rfl) ⟨_, ⟨congrArg (Value.int .i64) (by first | contradiction | (simp only [placeOf, if_pos hm]; split <;> omega) | (simp only [placeOf, if_neg hm]; done) | (simp only [placeOf, if_pos hm]; omega)), rfl⟩, hs17⟩

set_option maxRecDepth 20000 in
theorem rinodeat_spec {gw gi gb n_ : Int} (B : Nat) (w : World) : Spec Tryd.prog 119 #[(.agg #[(.int .i64 gw), (.int .i64 gi), (.int .i64 gb)]), (.int .i64 n_)] B w [] (fun v H' => v = .int .i64 (placeOf 8 gw gi gb n_) ∧ H' = []) := by
  refine spec_Q Tryd.func119 rfl fun hs => ?_
  refine W.seq fun K1 hK1 => ?_
  refine W.region ?_
  refine ops_new (fun b => .pointer (some ⟨b, 0, none⟩)) (.cells [(.int .i64 gw), (.int .i64 gi), (.int .i64 gb)].toArray 88 (0, 0)) hs (by kernel_rfl) (fun b4 w2 hs3 => ?_)
  refine ops_run 1 (by kernel_rfl) ?_
  refine ops_done (by kernel_rfl) ?_
  refine hK1 _ _ ?_
  clear hK1
  refine W.seq fun K5 hK5 => ?_
  refine W.seq fun K6 hK6 => ?_
  refine W.region ?_
  refine ops_R (runs_loadAgg (ad := ⟨b4, 0, none⟩) (cs := [(.int .i64 gw), (.int .i64 gi), (.int .i64 gb)]) (by kernel_rfl) (cells_sub (hs3.heapAt 0 rfl) rfl)) ?_
  refine ops_call0 hs3 (by kernel_rfl) (rmay_spec (gw := gw) (gi := gi) (gb := gb) B _) ?_
  rintro _ _ w7 ⟨rfl, rfl⟩ hs8
  have hs9 := St.ap0 hs8
  refine ops_run 2 (by kernel_rfl) ?_
  rcases Bool.eq_false_or_eq_true (!(decide (May gw gi gb))) with h10 | h10
  ·
    have h10p : ¬ (May gw gi gb) := of_decide_eq_false (bnot_true h10)
    refine ops_set 8 (v := .bool true) (eq_bool_of (by kernel_rfl) h10) ?_
    refine ops_set 7 (v := .bool true) (eq_bool_of (by kernel_rfl) h10) ?_
    refine ops_run 9 (by kernel_rfl) ?_
    refine ops_done (by kernel_rfl) ?_
    refine hK6 _ _ ?_
    clear hK6
    refine W.cond_true true (by kernel_rfl) rfl ?_
    refine W.seq fun K11 hK11 => ?_
    refine W.region ?_
    refine ops_run 1 (by kernel_rfl) ?_
    refine ops_done (by kernel_rfl) ?_
    refine hK11 _ _ ?_
    clear hK11
    refine W.ret (ret_seq ?_)
    have hs12 := St.tk0 hs9
    refine ret_of (.int .i64 (-1)) (by kernel_rfl) ⟨_, ⟨congrArg (Value.int .i64) (by by_cases hm : May gw gi gb <;> first | contradiction | (have hm_ : (1 ≤ gw ∧ gw ≤ 4) ∧ (2 ≤ gi ∧ gi ≤ 64) ∧ (2 ≤ gb ∧ gb ≤ 512) := hm; simp only [placeOf, if_pos hm]; split <;> omega) | (simp only [placeOf, if_neg hm]; done)), rfl⟩, hs12⟩
  ·
    have h10p : May gw gi gb := of_decide_eq_true (bnot_false h10)
    have hm : May gw gi gb := h10p
    have hm_ : (1 ≤ gw ∧ gw ≤ 4) ∧ (2 ≤ gi ∧ gi ≤ 64) ∧ (2 ≤ gb ∧ gb ≤ 512) := hm
    refine ops_set 8 (v := .bool false) (eq_bool_of (by kernel_rfl) h10) ?_
    refine ops_set 7 (v := .bool false) (eq_bool_of (by kernel_rfl) h10) ?_
    refine ops_run 4 (by kernel_rfl) ?_
    rcases Bool.eq_false_or_eq_true (decide (n_ < 0)) with h13 | h13
    ·
      have h13p : n_ < 0 := of_decide_eq_true h13
      refine ops_set 12 (v := .bool true) (eq_bool_of (by kernel_rfl) h13) ?_
      refine ops_set 10 (v := .bool true) (eq_bool_of (by kernel_rfl) h13) ?_
      refine ops_set 11 (v := .bool true) (eq_bool_of (by kernel_rfl) h13) ?_
      refine ops_run 5 (by kernel_rfl) ?_
      refine ops_done (by kernel_rfl) ?_
      refine hK6 _ _ ?_
      clear hK6
      refine W.cond_true true (by kernel_rfl) rfl ?_
      refine W.seq fun K14 hK14 => ?_
      refine W.region ?_
      refine ops_run 1 (by kernel_rfl) ?_
      refine ops_done (by kernel_rfl) ?_
      refine hK14 _ _ ?_
      clear hK14
      refine W.ret (ret_seq ?_)
      have hs15 := St.tk0 hs9
      refine ret_of (.int .i64 (-1)) (by kernel_rfl) ⟨_, ⟨congrArg (Value.int .i64) (by by_cases hm : May gw gi gb <;> first | contradiction | (have hm_ : (1 ≤ gw ∧ gw ≤ 4) ∧ (2 ≤ gi ∧ gi ≤ 64) ∧ (2 ≤ gb ∧ gb ≤ 512) := hm; simp only [placeOf, if_pos hm]; split <;> omega) | (simp only [placeOf, if_neg hm]; done)), rfl⟩, hs15⟩
    ·
      have h13p : ¬ (n_ < 0) := of_decide_eq_false h13
      refine ops_set 12 (v := .bool false) (eq_bool_of (by kernel_rfl) h13) ?_
      refine ops_set 10 (v := .bool false) (eq_bool_of (by kernel_rfl) h13) ?_
      refine ops_set 11 (v := .bool false) (eq_bool_of (by kernel_rfl) h13) ?_
      refine ops_run 2 (by kernel_rfl) ?_
      refine ops_R (runs_load (ad := ⟨b4, 1, none⟩) (v := (.int .i64 gi)) (by kernel_rfl) (hs9.cellAt 0 rfl rfl)) ?_
      refine ops_run 2 (by kernel_rfl) ?_
      refine ops_done (by kernel_rfl) ?_
      refine hK6 _ _ ?_
      clear hK6
      refine W.cond (decide (n_ ≥ gi)) (by kernel_rfl) (fun h16 => ?_) (fun h16 => ?_)
      ·
        have h16p : n_ ≥ gi := of_decide_eq_true h16
        refine W.seq fun K17 hK17 => ?_
        refine W.region ?_
        refine ops_run 1 (by kernel_rfl) ?_
        refine ops_done (by kernel_rfl) ?_
        refine hK17 _ _ ?_
        clear hK17
        refine W.ret (ret_seq ?_)
        have hs18 := St.tk0 hs9
        refine ret_of (.int .i64 (-1)) (by kernel_rfl) ⟨_, ⟨congrArg (Value.int .i64) (by by_cases hm : May gw gi gb <;> first | contradiction | (have hm_ : (1 ≤ gw ∧ gw ≤ 4) ∧ (2 ≤ gi ∧ gi ≤ 64) ∧ (2 ≤ gb ∧ gb ≤ 512) := hm; simp only [placeOf, if_pos hm]; split <;> omega) | (simp only [placeOf, if_neg hm]; done)), rfl⟩, hs18⟩
      ·
        have h16p : ¬ (n_ ≥ gi) := of_decide_eq_false h16
        refine W.skip ?_
        refine hK5 _ _ ?_
        clear hK5
        refine W.seq fun K19 hK19 => ?_
        refine W.region ?_
        refine ops_R (runs_loadAgg (ad := ⟨b4, 0, none⟩) (cs := [(.int .i64 gw), (.int .i64 gi), (.int .i64 gb)]) (by kernel_rfl) (cells_sub (hs9.heapAt 0 rfl) rfl)) ?_
        refine ops_call0 hs9 (by kernel_rfl) (maps_spec (hm := hm) (gw := gw) (gi := gi) (gb := gb) B _) ?_
        rintro _ _ w20 ⟨rfl, rfl⟩ hs21
        have hs22 := St.ap0 hs21
        refine ops_val (v := .int .i64 (IntKind.i64.wrap ((264 + 208 * gw) + 16))) (v' := .int .i64 ((264 + 208 * gw) + 16)) (by kernel_rfl) (congrArg (Value.int .i64) (wrap_i64 (by omega) (by omega))) ?_
        refine ops_run 1 (by kernel_rfl) ?_
        refine ops_val (v := .int .i64 (IntKind.i64.wrap (16 * n_))) (v' := .int .i64 (16 * n_)) (by kernel_rfl) (congrArg (Value.int .i64) (wrap_i64 (by omega) (by omega))) ?_
        refine ops_val (v := .int .i64 (IntKind.i64.wrap (((264 + 208 * gw) + 16) + (16 * n_)))) (v' := .int .i64 (((264 + 208 * gw) + 16) + (16 * n_))) (by kernel_rfl) (congrArg (Value.int .i64) (wrap_i64 (by omega) (by omega))) ?_
        refine ops_run 1 (by kernel_rfl) ?_
        refine ops_done (by kernel_rfl) ?_
        refine hK19 _ _ ?_
        clear hK19
        refine W.ret ?_
        have hs23 := St.tk0 hs22
        refine ret_of (.int .i64 (((264 + 208 * gw) + 16) + (16 * n_))) (by kernel_rfl) ⟨_, ⟨congrArg (Value.int .i64) (by by_cases hm : May gw gi gb <;> first | contradiction | (have hm_ : (1 ≤ gw ∧ gw ≤ 4) ∧ (2 ≤ gi ∧ gi ≤ 64) ∧ (2 ≤ gb ∧ gb ≤ 512) := hm; simp only [placeOf, if_pos hm]; split <;> omega) | (simp only [placeOf, if_neg hm]; done)), rfl⟩, hs23⟩

end Go.Proofs.YthimamnblklkbaaDoor
