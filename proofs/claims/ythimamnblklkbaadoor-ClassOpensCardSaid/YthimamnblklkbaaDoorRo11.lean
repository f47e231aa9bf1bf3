/- How the arguments of layer 11 read, by a program. -/
import Derived.Test.YthimamnblklkbaaDoorGI
import Derived.Test.YthimamnblklkbaaDoorGC
namespace Go.Proofs.YthimamnblklkbaaDoor
open Go.ChangeShapes Go.WideShapes Go.ChangeAt Go.RowKit Go.Deep
set_option linter.unusedVariables false

theorem leaf_Tn (cs0 : List Value) (e0 : LeavesOk [.int .u16, .int .u64] cs0) : ∃ x, cs0 = kTn.elem x ∧ good_Tn x := by
  obtain ⟨_, cs1, rfl, ⟨z0, rfl, b0⟩, e1⟩ := leaves_cons e0
  obtain ⟨_, cs2, rfl, ⟨z1, rfl, b1⟩, e2⟩ := leaves_cons e1
  obtain rfl := leaves_nil e2
  simp [Lit.wf, IntKind.min, IntKind.max, IntKind.signed, IntKind.bits] at b0 b1
  refine ⟨⟨z0, z1⟩, rfl, ?_⟩
  simp only [good_Tn]
  omega
theorem read_Tn {H : Type} {enc : TypeId × Value → H} {w : World} {base : Nat} {sp : Nat → Bool} (n : Nat) (cs : List Value) (y : DataW H × List MemPlace) (_ : cs.length = kTn.size) (h : DataW.trod enc Tryd.prog w base sp true n kTn.e cs = some y) :
    ∃ x, cs = kTn.elem x ∧ good_Tn x := leaf_Tn cs (leaves_ok (P := Tryd.prog) 6 kTn.e [.int .u16, .int .u64] _ _ _ (by kernel_rfl) h)

theorem leaf_St11 (cs0 : List Value) (e0 : WithText.LeavesOk [.int .u8, .int .i64, .int .u64, .int .u64, .int .i64, .int .u64, .int .u64, .string, .bool] cs0) : ∃ x, cs0 = kSt11.elem x ∧ good_St11 x := by
  obtain ⟨_, cs1, rfl, ⟨z0, rfl, b0⟩, e1⟩ := WithText.leaves_cons e0
  obtain ⟨_, cs2, rfl, ⟨z1, rfl, b1⟩, e2⟩ := WithText.leaves_cons e1
  obtain ⟨_, cs3, rfl, ⟨z2, rfl, b2⟩, e3⟩ := WithText.leaves_cons e2
  obtain ⟨_, cs4, rfl, ⟨z3, rfl, b3⟩, e4⟩ := WithText.leaves_cons e3
  obtain ⟨_, cs5, rfl, ⟨z4, rfl, b4⟩, e5⟩ := WithText.leaves_cons e4
  obtain ⟨_, cs6, rfl, ⟨z5, rfl, b5⟩, e6⟩ := WithText.leaves_cons e5
  obtain ⟨_, cs7, rfl, ⟨z6, rfl, b6⟩, e7⟩ := WithText.leaves_cons e6
  obtain ⟨_, cs8, rfl, ⟨z7, rfl, _⟩, e8⟩ := WithText.leaves_cons e7
  obtain ⟨_, cs9, rfl, ⟨z8, rfl⟩, e9⟩ := WithText.leaves_cons e8
  obtain rfl := WithText.leaves_nil e9
  simp [Lit.wf, IntKind.min, IntKind.max, IntKind.signed, IntKind.bits] at b0 b1 b2 b3 b4 b5 b6
  refine ⟨⟨z0, z1, z2, z3, z4, z5, z6, z7, z8⟩, rfl, ?_⟩
  simp only [good_St11]
  omega
theorem read_St11 {H : Type} {enc : TypeId × Value → H} {w : World} {base : Nat} {sp : Nat → Bool} (n : Nat) (cs : List Value) (y : DataW H × List MemPlace) (_ : cs.length = kSt11.size) (h : DataW.trod enc Tryd.prog w base sp true n kSt11.e cs = some y) :
    ∃ x, cs = kSt11.elem x ∧ good_St11 x := leaf_St11 cs (WithText.leaves_ok (P := Tryd.prog) 6 kSt11.e [.int .u8, .int .i64, .int .u64, .int .u64, .int .i64, .int .u64, .int .u64, .string, .bool] _ _ _ (by kernel_rfl) h)

end Go.Proofs.YthimamnblklkbaaDoor
