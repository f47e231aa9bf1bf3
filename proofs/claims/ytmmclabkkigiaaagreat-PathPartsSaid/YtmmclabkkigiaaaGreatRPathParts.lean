/- The row of PathParts: the Go function answers true for every input that its guards let in; no condition besides. -/
import Derived.Test.YtmmclabkkigiaaaGreatQPP7
set_option linter.unusedVariables false
set_option linter.unusedSimpArgs false
namespace Go.Proofs.YtmmclabkkigiaaaGreat
open Go.ChangeShapes Go.WideShapes Go.ChangeAt Go.RowKit Go.Deep
set_option maxRecDepth 100000 in
theorem pathparts_lifted (os : Os) (started : os.Started) (H : Type) (enc : TypeId × Value → H) :
    ReturnsInHanded {} Tryz.checked os 4 .any (Rows.pathPartsSpec.pre6 enc Tryz.prog Tryz.f4 Rows.pathPartsRow.domain false) (Rows.pathPartsSpec.post enc Tryz.prog Tryz.f4 false true false false) := by
  refine returnsInHanded_of_change (C := Tryz.checked) law_own started (by kernel_rfl) Tryz.func4
    (ChangeSpec.witness6 (enc := enc) (C := Tryz.checked) false ⟨#[], #[.slice none 0 0, .string ByteArray.empty, .int .u8 0, .int .u8 0], []⟩ 8 (by kernel_rfl) (by kernel_rfl) (by kernel_rfl) (by kernel_rfl)) ?_
  intro W base args ds gs before hval0 hW _ _
  have hpar : Tryz.f4.params = #[22, 9, 5, 5] := by kernel_rfl
  have hval : ∀ (j : Nat) t v, Tryz.f4.params[j]? = some t → args[j]? = some v → Value.okWide Tryz.prog W .any base t v := hval0
  have hW' := hW
  obtain ⟨p, q, hA0, hV, rfl, hfz, hnd⟩ := hW
  have hA : DataW.TrodAll enc Tryz.prog W 0 (fun _ => true) true Tryz.f4.params.toList args.toList ds p := hA0
  rw [hpar] at hA hval
  obtain ⟨v0, vs0, d0, ds0, p0, q0, hargs0, rfl, rfl, h0, r0⟩ := trodAll_cons hA
  obtain ⟨v1, vs1, d1, ds1, p1, q1, hargs1, rfl, rfl, h1, r1⟩ := trodAll_cons r0
  obtain ⟨v2, vs2, d2, ds2, p2, q2, hargs2, rfl, rfl, h2, r2⟩ := trodAll_cons r1
  obtain ⟨v3, vs3, d3, ds3, p3, q3, hargs3, rfl, rfl, h3, r3⟩ := trodAll_cons r2
  obtain ⟨rfl, rfl, rfl⟩ := trodAll_nil r3
  obtain rfl : args = #[v0, v1, v2, v3] := by cases args; simp_all
  clear hA0 hval0 hA
  have hbelow := hW'.lt
  obtain ⟨a0, c0, l0, rfl, n0, m0, k0, g0⟩ := open_kind kMk good_Mk (by kernel_rfl) (by kernel_rfl) read_Mk (hval 0 22 v0 rfl rfl) h0
  obtain ⟨a1, rfl, rfl, rfl, z1⟩ := Go.ChangeMaps.open_string Tryz.underlying9 (hval 1 9 v1 rfl rfl) h1
  obtain ⟨a2, rfl, rfl, rfl, w2⟩ := open_int (by kernel_rfl : Tryz.prog.underlying 5 = some (.int .u8)) (hval 2 5 v2 rfl rfl) h2
  have z2 : 0 ≤ a2 ∧ a2 ≤ 255 := by simpa [Lit.wf, IntKind.min, IntKind.max, IntKind.signed, IntKind.bits] using w2
  obtain ⟨a3, rfl, rfl, rfl, w3⟩ := open_int (by kernel_rfl : Tryz.prog.underlying 5 = some (.int .u8)) (hval 3 5 v3 rfl rfl) h3
  have z3 : 0 ≤ a3 ∧ a3 ≤ 255 := by simpa [Lit.wf, IntKind.min, IntKind.max, IntKind.signed, IntKind.bits] using w3
  refine (law_calls (pathparts_walk (ms := l0) (tx_ := a1) (a_ := a2) (b_ := a3) _ W rfl k0 (pathparts_law z2 z3 g0))).mono fun e W' ⟨he, hB⟩ => ?_
  subst he
  exact law_post (tb := 4) law_laid (by kernel_rfl) rfl (by kernel_rfl) (by kernel_rfl) hW' hB ⟨rfl, rfl, rfl⟩
theorem pathparts_holds : Rows.PathPartsSaid :=
  OpenClaim.holds_of_wide 4 Tryz.f4 rfl rfl rfl rfl rfl rfl rfl ⟨rfl, rfl, rfl, rfl, rfl⟩ rfl rfl rfl rfl rfl (by kernel_rfl) Tryz.func4 (by kernel_rfl)
    (of_decide_eq_true (by kernel_rfl)) (by unfold Func.isWrapper; rw [if_neg (by decide +kernel)]; exact ⟨rfl, rfl⟩)
    (fun os started H enc _ => pathparts_lifted os started H enc)
end Go.Proofs.YtmmclabkkigiaaaGreat
