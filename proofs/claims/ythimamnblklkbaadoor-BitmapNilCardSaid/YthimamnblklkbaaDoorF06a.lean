/- Contracts of layer 6, by a program. -/
import Derived.Test.YthimamnblklkbaaDoorA6a
namespace Go.Proofs.YthimamnblklkbaaDoor
open Go Go.RowKit
set_option linter.unusedSimpArgs false
set_option linter.unusedVariables false

set_option maxRecDepth 20000 in
theorem mhas_nil {i_ : Int} (B : Nat) (w : World) : Spec Tryd.prog 93 #[(.pointer none), (.int .i64 i_)] B w [] (fun v H' => v = (.bool false) ∧ H' = []) := by
  refine spec_Q Tryd.func93 rfl fun hs => ?_
  refine W.seq fun K1 hK1 => ?_
  refine W.region ?_
  refine ops_run 1 (by kernel_rfl) ?_
  refine ops_done (by kernel_rfl) ?_
  refine hK1 _ _ ?_
  clear hK1
  refine W.seq fun K2 hK2 => ?_
  refine W.region ?_
  refine ops_run 15 (by kernel_rfl) ?_
  refine ops_done (by kernel_rfl) ?_
  refine hK2 _ _ ?_
  clear hK2
  refine W.ret ?_
  refine ret_of (.bool false) (by kernel_rfl) ⟨_, ⟨rfl, rfl⟩, hs⟩

set_option maxRecDepth 20000 in
theorem mget_nil {i_ : Int} (B : Nat) (w : World) : Spec Tryd.prog 23 #[(.pointer none), (.int .i64 i_)] B w [] (fun v H' => v = (.bool false) ∧ H' = []) := by
  refine spec_Q Tryd.func23 rfl fun hs => ?_
  refine W.seq fun K1 hK1 => ?_
  refine W.region ?_
  refine ops_run 1 (by kernel_rfl) ?_
  refine ops_done (by kernel_rfl) ?_
  refine hK1 _ _ ?_
  clear hK1
  refine W.seq fun K2 hK2 => ?_
  refine W.seq fun K3 hK3 => ?_
  refine W.region ?_
  refine ops_run 2 (by kernel_rfl) ?_
  refine ops_call (pre := []) hs (by kernel_rfl) (mhas_nil (i_ := i_) B _) ?_
  rintro _ _ w4 ⟨rfl, rfl⟩ hs5
  have hs6 : St B w [] w4 [] := hs5
  refine ops_run 1 (by kernel_rfl) ?_
  refine ops_done (by kernel_rfl) ?_
  refine hK3 _ _ ?_
  clear hK3
  refine W.cond_true true (by kernel_rfl) rfl ?_
  refine W.seq fun K7 hK7 => ?_
  refine W.region ?_
  refine ops_run 1 (by kernel_rfl) ?_
  refine ops_done (by kernel_rfl) ?_
  refine hK7 _ _ ?_
  clear hK7
  refine W.ret (ret_seq ?_)
  refine ret_of (.bool false) (by kernel_rfl) ⟨_, ⟨rfl, rfl⟩, hs6⟩

set_option maxRecDepth 20000 in
theorem mset_nil {i_ : Int} {is_ : Bool} (B : Nat) (w : World) : Spec Tryd.prog 24 #[(.pointer none), (.int .i64 i_), (.bool is_)] B w [] (fun v H' => v = (.int .i64 2) ∧ H' = []) := by
  refine spec_Q Tryd.func24 rfl fun hs => ?_
  refine W.seq fun K1 hK1 => ?_
  refine W.region ?_
  refine ops_run 1 (by kernel_rfl) ?_
  refine ops_done (by kernel_rfl) ?_
  refine hK1 _ _ ?_
  clear hK1
  refine W.seq fun K2 hK2 => ?_
  refine W.seq fun K3 hK3 => ?_
  refine W.region ?_
  refine ops_run 2 (by kernel_rfl) ?_
  refine ops_done (by kernel_rfl) ?_
  refine hK3 _ _ ?_
  clear hK3
  refine W.cond_true true (by kernel_rfl) rfl ?_
  refine W.seq fun K4 hK4 => ?_
  refine W.region ?_
  refine ops_run 1 (by kernel_rfl) ?_
  refine ops_done (by kernel_rfl) ?_
  refine hK4 _ _ ?_
  clear hK4
  refine W.ret (ret_seq ?_)
  refine ret_of (.int .i64 2) (by kernel_rfl) ⟨_, ⟨rfl, rfl⟩, hs⟩

end Go.Proofs.YthimamnblklkbaaDoor
