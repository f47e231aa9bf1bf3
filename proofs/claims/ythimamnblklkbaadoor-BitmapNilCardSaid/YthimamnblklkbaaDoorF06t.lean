/- Contracts of layer 6, by a program. -/
import Derived.Test.YthimamnblklkbaaDoorTz
namespace Go.Proofs.YthimamnblklkbaaDoor
open Go Go.RowKit
set_option linter.unusedSimpArgs false
set_option linter.unusedVariables false

set_option maxRecDepth 20000 in
theorem tz64_spec {x : Int} (B : Nat) (w : World) (hx : 0 ≤ x ∧ x < 18446744073709551616) (hT : CellsAt (some ⟨0, 0, none⟩) tab8 w) : Spec Tryd.prog 92 #[(.int .u64 x)] B w [] (fun v H' => v = .int .i64 (Lib.ctz 64 x.toNat : Int) ∧ H' = []) := by
  refine spec_Q Tryd.func92 rfl fun hs => ?_
  refine W.seq fun K1 hK1 => ?_
  refine W.region ?_
  refine ops_run 1 (by kernel_rfl) ?_
  refine ops_done (by kernel_rfl) ?_
  refine hK1 _ _ ?_
  clear hK1
  refine W.seq fun K2 hK2 => ?_
  refine W.seq fun K3 hK3 => ?_
  refine W.region ?_
  refine ops_run 2 (by kernel_rfl) ?_
  refine ops_done (by kernel_rfl) ?_
  refine hK3 _ _ ?_
  clear hK3
  refine W.cond (decide (x = 0)) (by kernel_rfl) (fun h4 => ?_) (fun h4 => ?_)
  ·
    have h4p : x = 0 := of_decide_eq_true h4
    refine W.seq fun K5 hK5 => ?_
    refine W.region ?_
    refine ops_run 1 (by kernel_rfl) ?_
    refine ops_done (by kernel_rfl) ?_
    refine hK5 _ _ ?_
    clear hK5
    refine W.ret (ret_seq ?_)
    have e_ : x = 0 := by omega
    subst e_
    refine ret_of (.int .i64 64) (by kernel_rfl) ⟨_, ⟨rfl, rfl⟩, hs⟩
  ·
    have h4p : ¬ (x = 0) := of_decide_eq_false h4
    refine W.skip ?_
    refine hK2 _ _ ?_
    clear hK2
    refine W.seq fun K6 hK6 => ?_
    refine W.region ?_
    refine ops_run 4 (by kernel_rfl) ?_
    obtain ⟨y, hy⟩ : ∃ y, bits .and .u64 x (IntKind.u64.wrap (0 - x)) = y := ⟨_, rfl⟩
    refine ops_set 8 (v := .int .u64 y) (Eq.trans (by kernel_rfl) (congrArg (Value.int .u64) hy)) ?_
    refine ops_val (v := .int .u64 (IntKind.u64.wrap (y * 285870213051353865))) (v' := .int .u64 ((y * 285870213051353865) % 18446744073709551616)) (by kernel_rfl) (congrArg (Value.int .u64) (wrap_u64_mod _)) ?_
    refine ops_run 1 (by kernel_rfl) ?_
    have h7 : ¬ (x = 0) := by omega
    obtain ⟨k, hk, hz, hc⟩ := tz_at hx h7 hy
    refine ops_R (runs_indexA (ad := ⟨0, 0, none⟩) (n := 64) (z := (shrK .u64 ((y * 285870213051353865) % 18446744073709551616) 58)) (size := 1) k hz hk (by kernel_rfl)) ?_
    have hl : w.cell? (Addr.add ⟨0, 0, none⟩ (k * 1)) = some (.int .u8 (Lib.ctz 64 x.toNat : Int)) := by rw [Nat.mul_one]; exact hT k _ hc
    refine ops_R (runs_load (ad := Addr.add ⟨0, 0, none⟩ (k * 1)) (v := (.int .u8 (Lib.ctz 64 x.toNat : Int))) (by kernel_rfl) hl) ?_
    have hc9 := ctz_le hx h7
    have h8 : -9223372036854775808 ≤ (Lib.ctz 64 x.toNat : Int) ∧ (Lib.ctz 64 x.toNat : Int) ≤ 9223372036854775807 := by omega
    refine ops_val (v := .int .i64 (IntKind.i64.wrap (Lib.ctz 64 x.toNat : Int))) (v' := .int .i64 (Lib.ctz 64 x.toNat : Int)) (by kernel_rfl) (congrArg (Value.int .i64) (wrap_i64 h8.1 h8.2)) ?_
    refine ops_run 1 (by kernel_rfl) ?_
    refine ops_done (by kernel_rfl) ?_
    refine hK6 _ _ ?_
    clear hK6
    refine W.ret ?_
    refine ret_of (.int .i64 (Lib.ctz 64 x.toNat : Int)) (by kernel_rfl) ⟨_, ⟨rfl, rfl⟩, hs⟩

end Go.Proofs.YthimamnblklkbaaDoor
