/- What the code computes, by a program. -/
import Derived.Test.YthimamnblklkbaaDoorBt
namespace Go.Proofs.YthimamnblklkbaaDoor
open Go Go.RowKit
set_option linter.unusedSimpArgs false
set_option linter.unusedVariables false

def ones_M (x : Int) : Option (Int) :=
  (some (((bits .and .u64 (shrK .u64 x 1) 6148914691236517205) + (bits .and .u64 x 6148914691236517205)) % 18446744073709551616)).bind fun r3 =>
(some (((bits .and .u64 (shrK .u64 r3 2) 3689348814741910323) + (bits .and .u64 r3 3689348814741910323)) % 18446744073709551616)).bind fun r6 =>
(some (bits .and .u64 (((shrK .u64 r6 4) + r6) % 18446744073709551616) 1085102592571150095)).bind fun r9 =>
(some ((r9 + (shrK .u64 r9 8)) % 18446744073709551616)).bind fun r12 =>
(some ((r12 + (shrK .u64 r12 16)) % 18446744073709551616)).bind fun r15 =>
(some ((r15 + (shrK .u64 r15 32)) % 18446744073709551616)).bind fun r18 =>
need (-9223372036854775808 ≤ r18 ∧ r18 ≤ 9223372036854775807) <|
some (bits .and .i64 r18 127)

set_option maxRecDepth 20000 in
set_option linter.unusedVariables false in
theorem ones_walk {x : Int}  {r : Int} (B : Nat) (w : World) (hm : ones_M x = some r) : Spec Tryd.prog 96 #[(.int .u64 x)] B w [] (fun v H' => v = .int .i64 r ∧ H' = []) := by
  refine spec_Q Tryd.func96 rfl fun hs => ?_
  unfold ones_M at hm
  refine W.seq fun K1 hK1 => ?_
  refine W.region ?_
  refine ops_run 1 (by kernel_rfl) ?_
  refine ops_done (by kernel_rfl) ?_
  refine hK1 _ _ ?_
  clear hK1
  refine W.seq fun K2 hK2 => ?_
  refine W.region ?_
  refine ops_run 5 (by kernel_rfl) ?_
  refine ops_val (v := .int .u64 (IntKind.u64.wrap ((bits .and .u64 (shrK .u64 x 1) 6148914691236517205) + (bits .and .u64 x 6148914691236517205)))) (v' := .int .u64 (((bits .and .u64 (shrK .u64 x 1) 6148914691236517205) + (bits .and .u64 x 6148914691236517205)) % 18446744073709551616)) (by kernel_rfl) (congrArg (Value.int .u64) (wrap_u64_mod _)) ?_
  refine ops_run 1 (by kernel_rfl) ?_
  obtain ⟨r3, h4, hm⟩ := bind_some hm
  replace h4 := some_inj h4
  refine ops_set 0 (v := .int .u64 r3) (Eq.trans (by kernel_rfl) (congrArg (Value.int .u64) h4)) ?_
  refine ops_done (by kernel_rfl) ?_
  refine hK2 _ _ ?_
  clear hK2
  refine W.seq fun K5 hK5 => ?_
  refine W.region ?_
  refine ops_run 5 (by kernel_rfl) ?_
  refine ops_val (v := .int .u64 (IntKind.u64.wrap ((bits .and .u64 (shrK .u64 r3 2) 3689348814741910323) + (bits .and .u64 r3 3689348814741910323)))) (v' := .int .u64 (((bits .and .u64 (shrK .u64 r3 2) 3689348814741910323) + (bits .and .u64 r3 3689348814741910323)) % 18446744073709551616)) (by kernel_rfl) (congrArg (Value.int .u64) (wrap_u64_mod _)) ?_
  refine ops_run 1 (by kernel_rfl) ?_
  obtain ⟨r6, h7, hm⟩ := bind_some hm
  replace h7 := some_inj h7
  refine ops_set 0 (v := .int .u64 r6) (Eq.trans (by kernel_rfl) (congrArg (Value.int .u64) h7)) ?_
  refine ops_done (by kernel_rfl) ?_
  refine hK5 _ _ ?_
  clear hK5
  refine W.seq fun K8 hK8 => ?_
  refine W.region ?_
  refine ops_run 3 (by kernel_rfl) ?_
  refine ops_val (v := .int .u64 (IntKind.u64.wrap ((shrK .u64 r6 4) + r6))) (v' := .int .u64 (((shrK .u64 r6 4) + r6) % 18446744073709551616)) (by kernel_rfl) (congrArg (Value.int .u64) (wrap_u64_mod _)) ?_
  refine ops_run 2 (by kernel_rfl) ?_
  obtain ⟨r9, h10, hm⟩ := bind_some hm
  replace h10 := some_inj h10
  refine ops_set 0 (v := .int .u64 r9) (Eq.trans (by kernel_rfl) (congrArg (Value.int .u64) h10)) ?_
  refine ops_done (by kernel_rfl) ?_
  refine hK8 _ _ ?_
  clear hK8
  refine W.seq fun K11 hK11 => ?_
  refine W.region ?_
  refine ops_run 3 (by kernel_rfl) ?_
  refine ops_val (v := .int .u64 (IntKind.u64.wrap (r9 + (shrK .u64 r9 8)))) (v' := .int .u64 ((r9 + (shrK .u64 r9 8)) % 18446744073709551616)) (by kernel_rfl) (congrArg (Value.int .u64) (wrap_u64_mod _)) ?_
  refine ops_run 1 (by kernel_rfl) ?_
  obtain ⟨r12, h13, hm⟩ := bind_some hm
  replace h13 := some_inj h13
  refine ops_set 0 (v := .int .u64 r12) (Eq.trans (by kernel_rfl) (congrArg (Value.int .u64) h13)) ?_
  refine ops_done (by kernel_rfl) ?_
  refine hK11 _ _ ?_
  clear hK11
  refine W.seq fun K14 hK14 => ?_
  refine W.region ?_
  refine ops_run 3 (by kernel_rfl) ?_
  refine ops_val (v := .int .u64 (IntKind.u64.wrap (r12 + (shrK .u64 r12 16)))) (v' := .int .u64 ((r12 + (shrK .u64 r12 16)) % 18446744073709551616)) (by kernel_rfl) (congrArg (Value.int .u64) (wrap_u64_mod _)) ?_
  refine ops_run 1 (by kernel_rfl) ?_
  obtain ⟨r15, h16, hm⟩ := bind_some hm
  replace h16 := some_inj h16
  refine ops_set 0 (v := .int .u64 r15) (Eq.trans (by kernel_rfl) (congrArg (Value.int .u64) h16)) ?_
  refine ops_done (by kernel_rfl) ?_
  refine hK14 _ _ ?_
  clear hK14
  refine W.seq fun K17 hK17 => ?_
  refine W.region ?_
  refine ops_run 3 (by kernel_rfl) ?_
  refine ops_val (v := .int .u64 (IntKind.u64.wrap (r15 + (shrK .u64 r15 32)))) (v' := .int .u64 ((r15 + (shrK .u64 r15 32)) % 18446744073709551616)) (by kernel_rfl) (congrArg (Value.int .u64) (wrap_u64_mod _)) ?_
  refine ops_run 1 (by kernel_rfl) ?_
  obtain ⟨r18, h19, hm⟩ := bind_some hm
  replace h19 := some_inj h19
  refine ops_set 0 (v := .int .u64 r18) (Eq.trans (by kernel_rfl) (congrArg (Value.int .u64) h19)) ?_
  refine ops_done (by kernel_rfl) ?_
  refine hK17 _ _ ?_
  clear hK17
  refine W.seq fun K20 hK20 => ?_
  refine W.region ?_
  refine ops_run 1 (by kernel_rfl) ?_
  obtain ⟨h21, hm⟩ := need_some hm
  refine ops_val (v := .int .i64 (IntKind.i64.wrap r18)) (v' := .int .i64 r18) (by kernel_rfl) (congrArg (Value.int .i64) (wrap_i64 h21.1 h21.2)) ?_
  refine ops_run 2 (by kernel_rfl) ?_
  refine ops_done (by kernel_rfl) ?_
  refine hK20 _ _ ?_
  clear hK20
  refine W.ret ?_
  obtain rfl := some_inj hm
  refine ret_of (.int .i64 (bits .and .i64 r18 127)) (by kernel_rfl) ⟨_, ⟨rfl, rfl⟩, hs⟩

end Go.Proofs.YthimamnblklkbaaDoor
