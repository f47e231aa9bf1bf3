/- How the arguments of layer 5 read, by a program. -/
import Derived.Test.YthimamnblklkbaaLp
namespace Go.Proofs.Ythimamnblklkbaa
open Go.ChangeShapes Go.WideShapes Go.ChangeAt Go.RowKit Go.Deep

def good_u64 (x : Int) : Prop := 0 ≤ x ∧ x ≤ 18446744073709551615
theorem read_u64 {H : Type} {enc : TypeId × Value → H} {w : World} {base : Nat} {sp : Nat → Bool} (n : Nat) (cs : List Value) (y : DataW H × List MemPlace) (_ : cs.length = kU64.size) (h : DataW.trod enc Try.prog w base sp true n kU64.e cs = some y) :
    ∃ x, cs = kU64.elem x ∧ good_u64 x := by
  obtain ⟨z, rfl, _, hz⟩ := DataW.trod_int (by kernel_rfl : Try.prog.underlying kU64.e = some (.int .u64)) h
  exact ⟨z, rfl, by simpa [good_u64, Lit.wf, IntKind.min, IntKind.max, IntKind.signed, IntKind.bits] using hz⟩

def good_wr (x : (Int × Int)) : Prop := (-9223372036854775808 ≤ x.1 ∧ x.1 ≤ 9223372036854775807) ∧ (0 ≤ x.2 ∧ x.2 ≤ 18446744073709551615)
theorem read_wr {H : Type} {enc : TypeId × Value → H} {w : World} {base : Nat} {sp : Nat → Bool} (n : Nat) (cs : List Value) (y : DataW H × List MemPlace) (hlen : cs.length = kWr.size) (h : DataW.trod enc Try.prog w base sp true n kWr.e cs = some y) :
    ∃ x, cs = kWr.elem x ∧ good_wr x := by
  change DataW.trod enc Try.prog w base sp true n 48 cs = some y at h
  obtain ⟨xs, m, rfl, _, _, hxl, hf⟩ := DataW.trod_struct Try.underlying48 h
  have c3 : Try.prog.cellsOf 3 = 1 := by kernel_rfl
  have c33 : Try.prog.cellsOf 33 = 1 := by kernel_rfl
  obtain ⟨u0, u1, rfl⟩ := len2 (show cs.length = 2 from hlen)
  obtain ⟨y0, y1, rfl⟩ := len2 (show xs.length = 2 from hxl)
  obtain ⟨z0, e0, _, b0⟩ := DataW.trod_int Try.underlying3 (hf 0 _ rfl)
  simp [c3] at e0
  subst e0
  obtain ⟨z1, e1, _, b1⟩ := DataW.trod_int Try.underlying33 (hf 1 _ rfl)
  simp [c33] at e1
  subst e1
  exact ⟨(z0, z1), rfl, by simp [Lit.wf, IntKind.min, IntKind.max, IntKind.signed, IntKind.bits] at b0 b1; simp only [good_wr]; omega⟩

def good_st5 (x : (Int × Int × Int)) : Prop := (0 ≤ x.1 ∧ x.1 ≤ 255) ∧ (-9223372036854775808 ≤ x.2.1 ∧ x.2.1 ≤ 9223372036854775807) ∧ (0 ≤ x.2.2 ∧ x.2.2 ≤ 18446744073709551615)
theorem read_st5 {H : Type} {enc : TypeId × Value → H} {w : World} {base : Nat} {sp : Nat → Bool} (n : Nat) (cs : List Value) (y : DataW H × List MemPlace) (hlen : cs.length = kStep5.size) (h : DataW.trod enc Try.prog w base sp true n kStep5.e cs = some y) :
    ∃ x, cs = kStep5.elem x ∧ good_st5 x := by
  change DataW.trod enc Try.prog w base sp true n 35 cs = some y at h
  obtain ⟨xs, m, rfl, _, _, hxl, hf⟩ := DataW.trod_struct Try.underlying35 h
  have c3 : Try.prog.cellsOf 3 = 1 := by kernel_rfl
  have c5 : Try.prog.cellsOf 5 = 1 := by kernel_rfl
  have c33 : Try.prog.cellsOf 33 = 1 := by kernel_rfl
  obtain ⟨u0, u1, u2, rfl⟩ := len3 (show cs.length = 3 from hlen)
  obtain ⟨y0, y1, y2, rfl⟩ := len3 (show xs.length = 3 from hxl)
  obtain ⟨z0, e0, _, b0⟩ := DataW.trod_int Try.underlying5 (hf 0 _ rfl)
  simp [c5] at e0
  subst e0
  obtain ⟨z1, e1, _, b1⟩ := DataW.trod_int Try.underlying3 (hf 1 _ rfl)
  simp [c3] at e1
  subst e1
  obtain ⟨z2, e2, _, b2⟩ := DataW.trod_int Try.underlying33 (hf 2 _ rfl)
  simp [c33] at e2
  subst e2
  exact ⟨(z0, z1, z2), rfl, by simp [Lit.wf, IntKind.min, IntKind.max, IntKind.signed, IntKind.bits] at b0 b1 b2; simp only [good_st5]; omega⟩

end Go.Proofs.Ythimamnblklkbaa
