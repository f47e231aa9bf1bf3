/- How the arguments of layer 12 read, by a program. -/
import Derived.Test.YthimamnblklkbaaK12
import Derived.Test.YthimamnblklkbaaLo
namespace Go.Proofs.Ythimamnblklkbaa
open Go.ChangeShapes Go.WideShapes Go.ChangeAt Go.RowKit Go.Deep
set_option linter.unusedVariables false

theorem leaf_Tn (cs0 : List Value) (e0 : LeavesOk [.int .u16, .int .u64] cs0) : ∃ x, cs0 = kTn.elem x ∧ good_Tn x := by
  obtain ⟨_, cs1, rfl, ⟨z0, rfl, b0⟩, e1⟩ := leaves_cons e0
  obtain ⟨_, cs2, rfl, ⟨z1, rfl, b1⟩, e2⟩ := leaves_cons e1
  obtain rfl := leaves_nil e2
  simp [Lit.wf, IntKind.min, IntKind.max, IntKind.signed, IntKind.bits] at b0 b1
  refine ⟨⟨z0, z1⟩, rfl, ?_⟩
  simp only [good_Tn]
  omega
theorem read_Tn {H : Type} {enc : TypeId × Value → H} {w : World} {base : Nat} {sp : Nat → Bool} (n : Nat) (cs : List Value) (y : DataW H × List MemPlace) (_ : cs.length = kTn.size) (h : DataW.trod enc Try.prog w base sp true n kTn.e cs = some y) :
    ∃ x, cs = kTn.elem x ∧ good_Tn x := leaf_Tn cs (leaves_ok (P := Try.prog) 6 kTn.e [.int .u16, .int .u64] _ _ _ (by kernel_rfl) h)

theorem leaf_St12 (cs0 : List Value) (e0 : LeavesOk [.int .u8, .int .i64, .int .u64, .int .u64, .int .u64, .int .u64, .int .u64, .int .u64, .int .u64, .int .u64, .int .u64, .int .u64, .bool] cs0) : ∃ x, cs0 = kSt12.elem x ∧ good_St12 x := by
  obtain ⟨_, cs1, rfl, ⟨z0, rfl, b0⟩, e1⟩ := leaves_cons e0
  obtain ⟨_, cs2, rfl, ⟨z1, rfl, b1⟩, e2⟩ := leaves_cons e1
  obtain ⟨_, cs3, rfl, ⟨z2, rfl, b2⟩, e3⟩ := leaves_cons e2
  obtain ⟨_, cs4, rfl, ⟨z3, rfl, b3⟩, e4⟩ := leaves_cons e3
  obtain ⟨_, cs5, rfl, ⟨z4, rfl, b4⟩, e5⟩ := leaves_cons e4
  obtain ⟨_, cs6, rfl, ⟨z5, rfl, b5⟩, e6⟩ := leaves_cons e5
  obtain ⟨_, cs7, rfl, ⟨z6, rfl, b6⟩, e7⟩ := leaves_cons e6
  obtain ⟨_, cs8, rfl, ⟨z7, rfl, b7⟩, e8⟩ := leaves_cons e7
  obtain ⟨_, cs9, rfl, ⟨z8, rfl, b8⟩, e9⟩ := leaves_cons e8
  obtain ⟨_, cs10, rfl, ⟨z9, rfl, b9⟩, e10⟩ := leaves_cons e9
  obtain ⟨_, cs11, rfl, ⟨z10, rfl, b10⟩, e11⟩ := leaves_cons e10
  obtain ⟨_, cs12, rfl, ⟨z11, rfl, b11⟩, e12⟩ := leaves_cons e11
  obtain ⟨_, cs13, rfl, ⟨z12, rfl⟩, e13⟩ := leaves_cons e12
  obtain rfl := leaves_nil e13
  simp [Lit.wf, IntKind.min, IntKind.max, IntKind.signed, IntKind.bits] at b0 b1 b2 b3 b4 b5 b6 b7 b8 b9 b10 b11
  refine ⟨⟨z0, z1, z2, z3, z4, z5, z6, z7, z8, z9, z10, z11, z12⟩, rfl, ?_⟩
  simp only [good_St12]
  omega
theorem read_St12 {H : Type} {enc : TypeId × Value → H} {w : World} {base : Nat} {sp : Nat → Bool} (n : Nat) (cs : List Value) (y : DataW H × List MemPlace) (_ : cs.length = kSt12.size) (h : DataW.trod enc Try.prog w base sp true n kSt12.e cs = some y) :
    ∃ x, cs = kSt12.elem x ∧ good_St12 x := leaf_St12 cs (leaves_ok (P := Try.prog) 6 kSt12.e [.int .u8, .int .i64, .int .u64, .int .u64, .int .u64, .int .u64, .int .u64, .int .u64, .int .u64, .int .u64, .int .u64, .int .u64, .bool] _ _ _ (by kernel_rfl) h)

theorem leaf_Geo (cs0 : List Value) (e0 : LeavesOk [.int .i64, .int .i64, .int .i64] cs0) : ∃ x, cs0 = kGeo.elem x ∧ good_Geo x := by
  obtain ⟨_, cs1, rfl, ⟨z0, rfl, b0⟩, e1⟩ := leaves_cons e0
  obtain ⟨_, cs2, rfl, ⟨z1, rfl, b1⟩, e2⟩ := leaves_cons e1
  obtain ⟨_, cs3, rfl, ⟨z2, rfl, b2⟩, e3⟩ := leaves_cons e2
  obtain rfl := leaves_nil e3
  simp [Lit.wf, IntKind.min, IntKind.max, IntKind.signed, IntKind.bits] at b0 b1 b2
  refine ⟨⟨z0, z1, z2⟩, rfl, ?_⟩
  simp only [good_Geo]
  omega
theorem read_Geo {H : Type} {enc : TypeId × Value → H} {w : World} {base : Nat} {sp : Nat → Bool} (n : Nat) (cs : List Value) (y : DataW H × List MemPlace) (_ : cs.length = kGeo.size) (h : DataW.trod enc Try.prog w base sp true n kGeo.e cs = some y) :
    ∃ x, cs = kGeo.elem x ∧ good_Geo x := leaf_Geo cs (leaves_ok (P := Try.prog) 6 kGeo.e [.int .i64, .int .i64, .int .i64] _ _ _ (by kernel_rfl) h)

theorem leaf_Nd12 (cs0 : List Value) (e0 : LeavesOk [.int .u64, .int .u64, .int .u64, .int .u64, .int .u64, .int .u64, .int .u64, .int .u64, .int .u64, .int .u64] cs0) : ∃ x, cs0 = kNd12.elem x ∧ good_Nd12 x := by
  obtain ⟨_, cs1, rfl, ⟨z0, rfl, b0⟩, e1⟩ := leaves_cons e0
  obtain ⟨_, cs2, rfl, ⟨z1, rfl, b1⟩, e2⟩ := leaves_cons e1
  obtain ⟨_, cs3, rfl, ⟨z2, rfl, b2⟩, e3⟩ := leaves_cons e2
  obtain ⟨_, cs4, rfl, ⟨z3, rfl, b3⟩, e4⟩ := leaves_cons e3
  obtain ⟨_, cs5, rfl, ⟨z4, rfl, b4⟩, e5⟩ := leaves_cons e4
  obtain ⟨_, cs6, rfl, ⟨z5, rfl, b5⟩, e6⟩ := leaves_cons e5
  obtain ⟨_, cs7, rfl, ⟨z6, rfl, b6⟩, e7⟩ := leaves_cons e6
  obtain ⟨_, cs8, rfl, ⟨z7, rfl, b7⟩, e8⟩ := leaves_cons e7
  obtain ⟨_, cs9, rfl, ⟨z8, rfl, b8⟩, e9⟩ := leaves_cons e8
  obtain ⟨_, cs10, rfl, ⟨z9, rfl, b9⟩, e10⟩ := leaves_cons e9
  obtain rfl := leaves_nil e10
  simp [Lit.wf, IntKind.min, IntKind.max, IntKind.signed, IntKind.bits] at b0 b1 b2 b3 b4 b5 b6 b7 b8 b9
  refine ⟨⟨z0, z1, z2, z3, z4, z5, z6, z7, z8, z9⟩, rfl, ?_⟩
  simp only [good_Nd12]
  omega
theorem read_Nd12 {H : Type} {enc : TypeId × Value → H} {w : World} {base : Nat} {sp : Nat → Bool} (n : Nat) (cs : List Value) (y : DataW H × List MemPlace) (_ : cs.length = kNd12.size) (h : DataW.trod enc Try.prog w base sp true n kNd12.e cs = some y) :
    ∃ x, cs = kNd12.elem x ∧ good_Nd12 x := leaf_Nd12 cs (leaves_ok (P := Try.prog) 6 kNd12.e [.int .u64, .int .u64, .int .u64, .int .u64, .int .u64, .int .u64, .int .u64, .int .u64, .int .u64, .int .u64] _ _ _ (by kernel_rfl) h)

end Go.Proofs.Ythimamnblklkbaa
