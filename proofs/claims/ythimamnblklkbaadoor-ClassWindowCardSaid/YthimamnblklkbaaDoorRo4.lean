/- How four words read. -/
import Derived.Test.YthimamnblklkbaaDoorK4
import Derived.Test.YthimamnblklkbaaDoorGC
namespace Go.Proofs.YthimamnblklkbaaDoor
open Go.ChangeShapes Go.WideShapes Go.ChangeAt Go.RowKit Go.Deep
set_option linter.unusedVariables false

theorem leaf_A4 (cs0 : List Value) (e0 : LeavesOk [.int .u64, .int .u64, .int .u64, .int .u64] cs0) : ∃ x, cs0 = kA4.elem x ∧ good_A4 x := by
  obtain ⟨_, cs1, rfl, ⟨z0, rfl, b0⟩, e1⟩ := leaves_cons e0
  obtain ⟨_, cs2, rfl, ⟨z1, rfl, b1⟩, e2⟩ := leaves_cons e1
  obtain ⟨_, cs3, rfl, ⟨z2, rfl, b2⟩, e3⟩ := leaves_cons e2
  obtain ⟨_, cs4, rfl, ⟨z3, rfl, b3⟩, e4⟩ := leaves_cons e3
  obtain rfl := leaves_nil e4
  simp [Lit.wf, IntKind.min, IntKind.max, IntKind.signed, IntKind.bits] at b0 b1 b2 b3
  refine ⟨⟨z0, z1, z2, z3⟩, rfl, ?_⟩
  simp only [good_A4]
  omega
theorem read_A4 {H : Type} {enc : TypeId × Value → H} {w : World} {base : Nat} {sp : Nat → Bool} (n : Nat) (cs : List Value) (y : DataW H × List MemPlace) (_ : cs.length = kA4.size) (h : DataW.trod enc Tryd.prog w base sp true n kA4.e cs = some y) :
    ∃ x, cs = kA4.elem x ∧ good_A4 x := leaf_A4 cs (leaves_ok (P := Tryd.prog) 6 kA4.e [.int .u64, .int .u64, .int .u64, .int .u64] _ _ _ (by kernel_rfl) h)

end Go.Proofs.YthimamnblklkbaaDoor
