/- The row and the card of DataNil: the Go function answers true for every input that its guards let in; no condition besides. -/
import Derived.Test.YtmmclabkkigiaaaDoorCards
import Derived.Test.YtmmclabkkigiaaaDoorTie
import Derived.Test.YtmmclabkkigiaaaDoorLDataNil0
set_option linter.unusedVariables false
set_option linter.unusedSimpArgs false
namespace Go.Proofs.YtmmclabkkigiaaaDoor
open Go.ChangeShapes Go.WideShapes Go.ChangeAt Go.RowKit Go.Deep
set_option linter.unusedVariables false

set_option maxRecDepth 100000 in
theorem datanil_lifted (os : Os) (started : os.Started) (H : Type) (enc : TypeId × Value → H) :
    ReturnsInHanded {} Tryd.checked os 7 .any (fun w args => (Rows.dataNilSpec.pre enc Tryd.prog Tryd.f7 [] false w args ∧ laidMetH Tryd.prog Rows.dataNilRow.laid w) ∧ sizedMet enc Tryd.prog Tryd.f7 (OpenSpec.ofChange Rows.dataNilSpec) false w args) (Rows.dataNilSpec.post enc Tryd.prog Tryd.f7 false true false false) := by
  refine returnsInHanded_of_change_and (C := Tryd.checked) (X := fun w _ => laidMetH Tryd.prog Rows.dataNilRow.laid w) (fun _ _ _ hh h => h.of_heap hh) law_own started (by kernel_rfl) Tryd.func7
    (ChangeSpec.witness_shaped (enc := enc) (C := Tryd.checked) (os := os) (X := fun w _ => laidMetH Tryd.prog Rows.dataNilRow.laid w) false (World.doorLaid Tryd.prog 400 os) #[.agg #[.int .i64 0, .int .i64 0, .int .i64 0], .int .i64 0, .int .u64 0, .string ByteArray.empty] 8 rfl (World.shaped_of_RefB (by kernel_rfl) (by kernel_rfl)) (by kernel_rfl) (by kernel_rfl) (by kernel_rfl) (door_met os _)) ?_
  intro W base args ds gs before hval0 hW _ _ hL _
  have hT := laid_tab hL
  have hpar : Tryd.f7.params = #[23, 3, 43, 9] := by kernel_rfl
  have hval : ∀ (j : Nat) t v, Tryd.f7.params[j]? = some t → args[j]? = some v → Value.okWide Tryd.prog W .any base t v := hval0
  have hW' := hW
  obtain ⟨p, q, hA0, hV, rfl, hfz, hnd⟩ := hW
  have hA : DataW.TrodAll enc Tryd.prog W 0 (fun _ => true) true Tryd.f7.params.toList args.toList ds p := hA0
  rw [hpar] at hA hval
  obtain ⟨v0, vs0, d0, ds0, p0, q0, hargs0, rfl, rfl, h0, r0⟩ := trodAll_cons hA
  obtain ⟨v1, vs1, d1, ds1, p1, q1, hargs1, rfl, rfl, h1, r1⟩ := trodAll_cons r0
  obtain ⟨v2, vs2, d2, ds2, p2, q2, hargs2, rfl, rfl, h2, r2⟩ := trodAll_cons r1
  obtain ⟨v3, vs3, d3, ds3, p3, q3, hargs3, rfl, rfl, h3, r3⟩ := trodAll_cons r2
  obtain ⟨rfl, rfl, rfl⟩ := trodAll_nil r3
  obtain rfl : args = #[v0, v1, v2, v3] := by cases args; simp_all
  clear hA0 hval0 hA
  have hbelow := hW'.lt
  obtain ⟨a0, rfl, z0⟩ := open_agg kGeo good_Geo 6 Tryd.underlying23 (by kernel_rfl) leaf_Geo (hval 0 23 v0 rfl rfl) h0
  obtain ⟨a1, rfl, rfl, rfl, w1⟩ := open_int (by kernel_rfl : Tryd.prog.underlying 3 = some (.int .i64)) (hval 1 3 v1 rfl rfl) h1
  have z1 : -9223372036854775808 ≤ a1 ∧ a1 ≤ 9223372036854775807 := by simpa [Lit.wf, IntKind.min, IntKind.max, IntKind.signed, IntKind.bits] using w1
  obtain ⟨a2, rfl, rfl, rfl, w2⟩ := open_int (by kernel_rfl : Tryd.prog.underlying 43 = some (.int .u64)) (hval 2 43 v2 rfl rfl) h2
  have z2 : 0 ≤ a2 ∧ a2 ≤ 18446744073709551615 := by simpa [Lit.wf, IntKind.min, IntKind.max, IntKind.signed, IntKind.bits] using w2
  obtain ⟨a3, rfl, rfl, rfl, z3⟩ := Go.ChangeMaps.open_string Tryd.underlying9 (hval 3 9 v3 rfl rfl) h3
  refine (law_calls (datanil_walk (gw := a0.c0) (gi := a0.c1) (gb := a0.c2) (n_ := a1) (at_ := a2) (tx_ := a3) _ W rfl hT (datanil_law (by unfold U64; omega)))).mono fun e W' ⟨he, hB⟩ => ?_
  subst he
  exact law_post (tb := 4) law_laid (by kernel_rfl) rfl (by kernel_rfl) (by kernel_rfl) hW' hB ⟨rfl, rfl, rfl⟩

set_option maxRecDepth 100000 in
theorem datanil_closed : joinedFacts Tryd.prog 7 Tryd.f7 Rows.dataNilSpec Rows.dataNilRow = true := by
  unfold joinedFacts
  rw [show (Tryd.prog.make == some Rows.dataNilRow.make) = true from seat_make, show (Rows.dataNilRow.lifted == Tryd.prog.liftsFinal) = true from seat_lifted, seat_enter]
  kernel_rfl

theorem datanil_holds : Rows.DataNilSaid :=
  OpenClaim.holds_of_wide 7 Tryd.f7 rfl rfl rfl rfl rfl rfl rfl ⟨rfl, rfl, rfl, rfl, rfl⟩ rfl rfl rfl rfl rfl (by kernel_rfl) Tryd.func7 datanil_closed
    (of_decide_eq_true (by kernel_rfl)) (by unfold Func.isWrapper; rw [if_neg (by decide +kernel)]; exact ⟨rfl, rfl⟩)
    (fun os started H enc _ => datanil_lifted os started H enc)

theorem datanil_card : Rows.DataNilCardSaid :=
  Claim7.holds_tied_plain_at .later [] [.data] true (true, "b301206068d09c589c049a84439cfac397fcf30fe99f46c51841731a95e690b1") false
    datanil_holds (fun _ h => by cases h) (by kernel_rfl) (fun _ h => by cases h) dataNil_row_tie rfl ⟨rfl, rfl⟩ seat_main rfl
    (fun f fn hf hfn => by
      obtain rfl : f = 7 := Option.some.inj ((show Tryd.prog.funcNamed "grommet/grommetlaw14.DataNil" = some 7 by kernel_rfl).symm.trans hf) |>.symm
      obtain rfl : fn = Tryd.f7 := (Option.some.inj (Tryd.func7.symm.trans hfn)).symm
      exact ⟨seat_looks, fun j t ht => by
        have hpar : Tryd.f7.params = #[23, 3, 43, 9] := by kernel_rfl
        rw [hpar] at ht
        have hm : t ∈ [23, 3, 43, 9] := by simpa using Array.mem_of_getElem? ht
        have hall : ([23, 3, 43, 9].all fun u => !Tryd.prog.wantsStandIn u) = true := by kernel_rfl
        exact (show Tryd.prog.wantsStandIn t = false by simpa using List.all_eq_true.1 hall t hm)⟩)
    (by kernel_rfl)

end Go.Proofs.YtmmclabkkigiaaaDoor
