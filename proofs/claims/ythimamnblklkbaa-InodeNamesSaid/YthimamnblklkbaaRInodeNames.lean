/- The row of InodeNames, by a program: the Go function answers true for every input. -/
import Derived.Test.YthimamnblklkbaaRo12
import Derived.Test.YthimamnblklkbaaPNm
namespace Go.Proofs.Ythimamnblklkbaa
open Go.ChangeShapes Go.WideShapes Go.ChangeAt Go.RowKit Go.Deep
set_option linter.unusedVariables false

set_option maxRecDepth 100000 in
theorem inodenames_lifted (os : Os) (started : os.Started) (H : Type) (enc : TypeId × Value → H) :
    ReturnsInHanded {} Try.checked os 10 .any (Rows.inodeNamesSpec.pre6 enc Try.prog Try.f10 Rows.inodeNamesRow.domain false) (Rows.inodeNamesSpec.post enc Try.prog Try.f10 false true false false) := by
  refine returnsInHanded_of_change (C := Try.checked) law_own started (by kernel_rfl) Try.func10
    (ChangeSpec.witness6 (enc := enc) (C := Try.checked) false ⟨#[], #[.int .u8 0, .int .u8 0, .int .u8 0, .agg #[.int .u64 0, .int .u64 0, .int .u64 0, .int .u64 0, .int .u64 0, .int .u64 0, .int .u64 0, .int .u64 0, .int .u64 0, .int .u64 0]], []⟩ 8 (by kernel_rfl) (by kernel_rfl) (by kernel_rfl) (by kernel_rfl)) ?_
  intro W base args ds gs before hval0 hW _ _
  have hpar : Try.f10.params = #[5, 5, 5, 54] := by kernel_rfl
  have hval : ∀ (j : Nat) t v, Try.f10.params[j]? = some t → args[j]? = some v → Value.okWide Try.prog W .any base t v := hval0
  have hW' := hW
  obtain ⟨p, q, hA0, hV, rfl, hfz, hnd⟩ := hW
  have hA : DataW.TrodAll enc Try.prog W 0 (fun _ => true) true Try.f10.params.toList args.toList ds p := hA0
  rw [hpar] at hA hval
  obtain ⟨v0, vs0, d0, ds0, p0, q0, hargs0, rfl, rfl, h0, r0⟩ := trodAll_cons hA
  obtain ⟨v1, vs1, d1, ds1, p1, q1, hargs1, rfl, rfl, h1, r1⟩ := trodAll_cons r0
  obtain ⟨v2, vs2, d2, ds2, p2, q2, hargs2, rfl, rfl, h2, r2⟩ := trodAll_cons r1
  obtain ⟨v3, vs3, d3, ds3, p3, q3, hargs3, rfl, rfl, h3, r3⟩ := trodAll_cons r2
  obtain ⟨rfl, rfl, rfl⟩ := trodAll_nil r3
  obtain rfl : args = #[v0, v1, v2, v3] := by cases args; simp_all
  clear hA0 hval0 hA
  have hbelow := hW'.lt
  obtain ⟨a0, rfl, rfl, rfl, w0⟩ := open_int (by kernel_rfl : Try.prog.underlying 5 = some (.int .u8)) (hval 0 5 v0 rfl rfl) h0
  have z0 : 0 ≤ a0 ∧ a0 ≤ 255 := by simpa [Lit.wf, IntKind.min, IntKind.max, IntKind.signed, IntKind.bits] using w0
  obtain ⟨a1, rfl, rfl, rfl, w1⟩ := open_int (by kernel_rfl : Try.prog.underlying 5 = some (.int .u8)) (hval 1 5 v1 rfl rfl) h1
  have z1 : 0 ≤ a1 ∧ a1 ≤ 255 := by simpa [Lit.wf, IntKind.min, IntKind.max, IntKind.signed, IntKind.bits] using w1
  obtain ⟨a2, rfl, rfl, rfl, w2⟩ := open_int (by kernel_rfl : Try.prog.underlying 5 = some (.int .u8)) (hval 2 5 v2 rfl rfl) h2
  have z2 : 0 ≤ a2 ∧ a2 ≤ 255 := by simpa [Lit.wf, IntKind.min, IntKind.max, IntKind.signed, IntKind.bits] using w2
  obtain ⟨a3, rfl, z3⟩ := open_agg kNd12 good_Nd12 6 Try.underlying54 (by kernel_rfl) leaf_Nd12 (hval 3 54 v3 rfl rfl) h3
  refine (law_calls (inodenames_walk (i_ := a0) (b_ := a1) (n_ := a2) (x_ := (⟨a3.c0, a3.c1, a3.c2, a3.c3, a3.c4, a3.c5, a3.c6, a3.c7, a3.c8, a3.c9⟩ : Nd)) _ W rfl (inodenames_law z0 z1 z2))).mono fun e W' ⟨he, hB⟩ => ?_
  subst he
  exact law_post (tb := 4) law_laid (by kernel_rfl) rfl (by kernel_rfl) (by kernel_rfl) hW' hB ⟨rfl, rfl, rfl⟩

theorem inodenames_holds : Rows.InodeNamesSaid :=
  OpenClaim.holds_of_wide 10 Try.f10 rfl rfl rfl rfl rfl rfl rfl ⟨rfl, rfl, rfl, rfl, rfl⟩ rfl rfl rfl rfl rfl (by kernel_rfl) Try.func10 (by kernel_rfl)
    (of_decide_eq_true (by kernel_rfl)) (by unfold Func.isWrapper; rw [if_neg (by decide +kernel)]; exact ⟨rfl, rfl⟩)
    (fun os started H enc _ => inodenames_lifted os started H enc)

end Go.Proofs.Ythimamnblklkbaa
