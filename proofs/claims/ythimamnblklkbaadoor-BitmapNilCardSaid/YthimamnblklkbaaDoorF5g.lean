/- Of no view; the anchor of layer 5, by a program. -/
import Derived.Test.YthimamnblklkbaaDoorF5f
namespace Go.Proofs.YthimamnblklkbaaDoor
open Go Go.RowKit
set_option linter.unusedSimpArgs false
set_option linter.unusedVariables false

set_option maxRecDepth 20000 in
theorem len_nil  (B : Nat) (w : World) : Spec Tryd.prog 90 #[(.pointer none)] B w [] (fun v H' => v = (.int .i64 0) ∧ H' = []) := by
  refine spec_Q Tryd.func90 rfl fun hs => ?_
  refine W.seq fun K1 hK1 => ?_
  refine W.region ?_
  refine ops_run 1 (by kernel_rfl) ?_
  refine ops_done (by kernel_rfl) ?_
  refine hK1 _ _ ?_
  clear hK1
  refine W.seq fun K2 hK2 => ?_
  refine W.seq fun K3 hK3 => ?_
  refine W.region ?_
  refine ops_run 2 (by kernel_rfl) ?_
  refine ops_done (by kernel_rfl) ?_
  refine hK3 _ _ ?_
  clear hK3
  refine W.cond_true true (by kernel_rfl) rfl ?_
  refine W.seq fun K4 hK4 => ?_
  refine W.region ?_
  refine ops_run 1 (by kernel_rfl) ?_
  refine ops_done (by kernel_rfl) ?_
  refine hK4 _ _ ?_
  clear hK4
  refine W.ret (ret_seq ?_)
  refine ret_of (.int .i64 0) (by kernel_rfl) ⟨_, ⟨rfl, rfl⟩, hs⟩

set_option maxRecDepth 20000 in
theorem put_nil {at_ x_ : Int} (B : Nat) (w : World) : Spec Tryd.prog 95 #[(.pointer none), (.int .i64 at_), (.int .u64 x_)] B w [] (fun v H' => v = (.int .i64 2) ∧ H' = []) := by
  refine spec_Q Tryd.func95 rfl fun hs => ?_
  refine W.seq fun K1 hK1 => ?_
  refine W.region ?_
  refine ops_run 1 (by kernel_rfl) ?_
  refine ops_done (by kernel_rfl) ?_
  refine hK1 _ _ ?_
  clear hK1
  refine W.seq fun K2 hK2 => ?_
  refine W.seq fun K3 hK3 => ?_
  refine W.region ?_
  refine ops_run 2 (by kernel_rfl) ?_
  refine ops_done (by kernel_rfl) ?_
  refine hK3 _ _ ?_
  clear hK3
  refine W.cond_true true (by kernel_rfl) rfl ?_
  refine W.seq fun K4 hK4 => ?_
  refine W.region ?_
  refine ops_run 1 (by kernel_rfl) ?_
  refine ops_done (by kernel_rfl) ?_
  refine hK4 _ _ ?_
  clear hK4
  refine W.ret (ret_seq ?_)
  refine ret_of (.int .i64 2) (by kernel_rfl) ⟨_, ⟨rfl, rfl⟩, hs⟩

set_option maxRecDepth 20000 in
theorem writes_nil  (B : Nat) (w : World) : Spec Tryd.prog 51 #[(.pointer none)] B w [] (fun v H' => v = (.slice none 0 0) ∧ H' = []) := by
  refine spec_Q Tryd.func51 rfl fun hs => ?_
  refine W.seq fun K1 hK1 => ?_
  refine W.region ?_
  refine ops_run 1 (by kernel_rfl) ?_
  refine ops_done (by kernel_rfl) ?_
  refine hK1 _ _ ?_
  clear hK1
  refine W.seq fun K2 hK2 => ?_
  refine W.seq fun K3 hK3 => ?_
  refine W.region ?_
  refine ops_run 2 (by kernel_rfl) ?_
  refine ops_done (by kernel_rfl) ?_
  refine hK3 _ _ ?_
  clear hK3
  refine W.cond_true true (by kernel_rfl) rfl ?_
  refine W.seq fun K4 hK4 => ?_
  refine W.region ?_
  refine ops_run 1 (by kernel_rfl) ?_
  refine ops_done (by kernel_rfl) ?_
  refine hK4 _ _ ?_
  clear hK4
  refine W.ret (ret_seq ?_)
  refine ret_of (.slice none 0 0) (by kernel_rfl) ⟨_, ⟨rfl, rfl⟩, hs⟩

set_option maxRecDepth 20000 in
theorem flat_nil  (B : Nat) (w : World) : Spec Tryd.prog 29 #[(.pointer none)] B w [] (fun v H' => v = (.slice none 0 0) ∧ H' = []) := by
  refine spec_Q Tryd.func29 rfl fun hs => ?_
  refine W.seq fun K1 hK1 => ?_
  refine W.region ?_
  refine ops_run 1 (by kernel_rfl) ?_
  refine ops_done (by kernel_rfl) ?_
  refine hK1 _ _ ?_
  clear hK1
  refine W.seq fun K2 hK2 => ?_
  refine W.seq fun K3 hK3 => ?_
  refine W.region ?_
  refine ops_run 2 (by kernel_rfl) ?_
  refine ops_done (by kernel_rfl) ?_
  refine hK3 _ _ ?_
  clear hK3
  refine W.cond_true true (by kernel_rfl) rfl ?_
  refine W.seq fun K4 hK4 => ?_
  refine W.region ?_
  refine ops_run 1 (by kernel_rfl) ?_
  refine ops_done (by kernel_rfl) ?_
  refine hK4 _ _ ?_
  clear hK4
  refine W.ret (ret_seq ?_)
  refine ret_of (.slice none 0 0) (by kernel_rfl) ⟨_, ⟨rfl, rfl⟩, hs⟩

set_option maxRecDepth 20000 in
theorem drop_nil  (B : Nat) (w : World) : Spec Tryd.prog 41 #[(.pointer none)] B w [] (fun v H' => v = (.tuple #[]) ∧ H' = []) := by
  refine spec_Q Tryd.func41 rfl fun hs => ?_
  refine W.seq fun K1 hK1 => ?_
  refine W.region ?_
  refine ops_run 2 (by kernel_rfl) ?_
  refine ops_done (by kernel_rfl) ?_
  refine hK1 _ _ ?_
  clear hK1
  refine W.cond_false false (by kernel_rfl) rfl ?_
  refine W.skip ?_
  refine ret_ofN (.tuple #[]) (by kernel_rfl) ⟨_, ⟨rfl, rfl⟩, hs⟩

set_option maxRecDepth 20000 in
theorem has_nil {at_ : Int} (B : Nat) (w : World) : Spec Tryd.prog 98 #[(.pointer none), (.int .i64 at_)] B w [] (fun v H' => v = .bool false ∧ H' = []) := by
  refine spec_Q Tryd.func98 rfl fun hs => ?_
  refine W.seq fun K1 hK1 => ?_
  refine W.region ?_
  refine ops_run 1 (by kernel_rfl) ?_
  refine ops_done (by kernel_rfl) ?_
  refine hK1 _ _ ?_
  clear hK1
  refine W.seq fun K2 hK2 => ?_
  refine W.region ?_
  refine ops_run 3 (by kernel_rfl) ?_
  rcases Bool.eq_false_or_eq_true (decide (at_ ≥ 0)) with h3 | h3
  ·
    have h3p : at_ ≥ 0 := of_decide_eq_true h3
    refine ops_set 7 (v := .bool true) (eq_bool_of (by kernel_rfl) h3) ?_
    refine ops_set 6 (v := .bool true) (eq_bool_of (by kernel_rfl) h3) ?_
    refine ops_run 2 (by kernel_rfl) ?_
    refine ops_call (pre := []) hs (by kernel_rfl) (len_nil B _) ?_
    rintro _ _ w4 ⟨rfl, rfl⟩ hs5
    have hs6 : St B w [] w4 [] := hs5
    refine ops_run 3 (by kernel_rfl) ?_
    refine ops_done (by kernel_rfl) ?_
    refine hK2 _ _ ?_
    clear hK2
    refine W.ret ?_
    refine ret_of (.bool (decide (at_ < 0))) (by kernel_rfl) ⟨_, ⟨congrArg Value.bool (decide_eq_false (by omega)), rfl⟩, hs6⟩
  ·
    have h3p : ¬ (at_ ≥ 0) := of_decide_eq_false h3
    refine ops_set 7 (v := .bool false) (eq_bool_of (by kernel_rfl) h3) ?_
    refine ops_set 6 (v := .bool false) (eq_bool_of (by kernel_rfl) h3) ?_
    refine ops_run 6 (by kernel_rfl) ?_
    refine ops_done (by kernel_rfl) ?_
    refine hK2 _ _ ?_
    clear hK2
    refine W.ret ?_
    refine ret_of (.bool false) (by kernel_rfl) ⟨_, ⟨congrArg Value.bool rfl, rfl⟩, hs⟩

set_option maxRecDepth 20000 in
theorem get_nil {at_ : Int} (B : Nat) (w : World) : Spec Tryd.prog 28 #[(.pointer none), (.int .i64 at_)] B w [] (fun v H' => v = .int .u64 0 ∧ H' = []) := by
  refine spec_Q Tryd.func28 rfl fun hs => ?_
  refine W.seq fun K1 hK1 => ?_
  refine W.region ?_
  refine ops_run 1 (by kernel_rfl) ?_
  refine ops_done (by kernel_rfl) ?_
  refine hK1 _ _ ?_
  clear hK1
  refine W.seq fun K2 hK2 => ?_
  refine W.seq fun K3 hK3 => ?_
  refine W.region ?_
  refine ops_run 2 (by kernel_rfl) ?_
  refine ops_call (pre := []) hs (by kernel_rfl) (has_nil (at_ := at_) B _) ?_
  rintro _ _ w4 ⟨rfl, rfl⟩ hs5
  have hs6 : St B w [] w4 [] := hs5
  refine ops_run 1 (by kernel_rfl) ?_
  refine ops_done (by kernel_rfl) ?_
  refine hK3 _ _ ?_
  clear hK3
  refine W.cond_true true (by kernel_rfl) rfl ?_
  refine W.seq fun K7 hK7 => ?_
  refine W.region ?_
  refine ops_run 1 (by kernel_rfl) ?_
  refine ops_done (by kernel_rfl) ?_
  refine hK7 _ _ ?_
  clear hK7
  refine W.ret (ret_seq ?_)
  refine ret_of (.int .u64 0) (by kernel_rfl) ⟨_, ⟨rfl, rfl⟩, hs6⟩


end Go.Proofs.YthimamnblklkbaaDoor
