/- The row and the card of DataCounts: the Go function answers true for every input that its guards let in; no condition besides. -/
import Derived.Test.YtmmclabkkigiaaaDoorCards
import Derived.Test.YtmmclabkkigiaaaDoorTie
import Derived.Test.YtmmclabkkigiaaaDoorLDataCounts0
set_option linter.unusedVariables false
set_option linter.unusedSimpArgs false
namespace Go.Proofs.YtmmclabkkigiaaaDoor
open Go.ChangeShapes Go.WideShapes Go.ChangeAt Go.RowKit Go.Deep
set_option linter.unusedVariables false

set_option maxRecDepth 100000 in
theorem datacounts_lifted (os : Os) (started : os.Started) (H : Type) (enc : TypeId × Value → H) :
    ReturnsInHanded {} Tryd.checked os 9 .any (fun w args => (Rows.dataCountsSpec.pre enc Tryd.prog Tryd.f9 [] false w args ∧ laidMetH Tryd.prog Rows.dataCountsRow.laid w) ∧ sizedMet enc Tryd.prog Tryd.f9 (OpenSpec.ofChange Rows.dataCountsSpec) false w args) (Rows.dataCountsSpec.post enc Tryd.prog Tryd.f9 false true false false) := by
  refine returnsInHanded_of_change_and (C := Tryd.checked) (X := fun w _ => laidMetH Tryd.prog Rows.dataCountsRow.laid w) (fun _ _ _ hh h => h.of_heap hh) law_own started (by kernel_rfl) Tryd.func9
    (ChangeSpec.witness_shaped (enc := enc) (C := Tryd.checked) (os := os) (X := fun w _ => laidMetH Tryd.prog Rows.dataCountsRow.laid w) false (World.doorLaid Tryd.prog 400 os) #[.int .u8 0, .slice none 0 0] 8 rfl (World.shaped_of_RefB (by kernel_rfl) (by kernel_rfl)) (by kernel_rfl) (by kernel_rfl) (by kernel_rfl) (door_met os _)) ?_
  intro W base args ds gs before hval0 hW _ _ hL _
  have hT := laid_tab hL
  have hpar : Tryd.f9.params = #[5, 71] := by kernel_rfl
  have hval : ∀ (j : Nat) t v, Tryd.f9.params[j]? = some t → args[j]? = some v → Value.okWide Tryd.prog W .any base t v := hval0
  have hW' := hW
  obtain ⟨p, q, hA0, hV, rfl, hfz, hnd⟩ := hW
  have hA : DataW.TrodAll enc Tryd.prog W 0 (fun _ => true) true Tryd.f9.params.toList args.toList ds p := hA0
  rw [hpar] at hA hval
  obtain ⟨v0, vs0, d0, ds0, p0, q0, hargs0, rfl, rfl, h0, r0⟩ := trodAll_cons hA
  obtain ⟨v1, vs1, d1, ds1, p1, q1, hargs1, rfl, rfl, h1, r1⟩ := trodAll_cons r0
  obtain ⟨rfl, rfl, rfl⟩ := trodAll_nil r1
  obtain rfl : args = #[v0, v1] := by cases args; simp_all
  clear hA0 hval0 hA
  have hbelow := hW'.lt
  obtain ⟨a0, rfl, rfl, rfl, w0⟩ := open_int (by kernel_rfl : Tryd.prog.underlying 5 = some (.int .u8)) (hval 0 5 v0 rfl rfl) h0
  have z0 : 0 ≤ a0 ∧ a0 ≤ 255 := by simpa [Lit.wf, IntKind.min, IntKind.max, IntKind.signed, IntKind.bits] using w0
  obtain ⟨a1, c1, l1, rfl, n1, m1, k1, g1⟩ := open_kind kSt14 good_St14 (by kernel_rfl) (by kernel_rfl) read_St14 (hval 1 71 v1 rfl rfl) h1
  refine (law_calls (datacounts_walk (b_ := a0) (ss := l1) _ W rfl hT k1 (datacounts_law z0 g1))).mono fun e W' ⟨he, hB⟩ => ?_
  subst he
  exact law_post (tb := 4) law_laid (by kernel_rfl) rfl (by kernel_rfl) (by kernel_rfl) hW' hB ⟨rfl, rfl, rfl⟩

set_option maxRecDepth 100000 in
theorem datacounts_closed : joinedFacts Tryd.prog 9 Tryd.f9 Rows.dataCountsSpec Rows.dataCountsRow = true := by
  unfold joinedFacts
  rw [show (Tryd.prog.make == some Rows.dataCountsRow.make) = true from seat_make, show (Rows.dataCountsRow.lifted == Tryd.prog.liftsFinal) = true from seat_lifted, seat_enter]
  kernel_rfl

theorem datacounts_holds : Rows.DataCountsSaid :=
  OpenClaim.holds_of_wide 9 Tryd.f9 rfl rfl rfl rfl rfl rfl rfl ⟨rfl, rfl, rfl, rfl, rfl⟩ rfl rfl rfl rfl rfl (by kernel_rfl) Tryd.func9 datacounts_closed
    (of_decide_eq_true (by kernel_rfl)) (by unfold Func.isWrapper; rw [if_neg (by decide +kernel)]; exact ⟨rfl, rfl⟩)
    (fun os started H enc _ => datacounts_lifted os started H enc)

theorem datacounts_card : Rows.DataCountsCardSaid :=
  Claim7.holds_tied_plain_at .later [] [.data] true (true, "b301206068d09c589c049a84439cfac397fcf30fe99f46c51841731a95e690b1") false
    datacounts_holds (fun _ h => by cases h) (by kernel_rfl) (fun _ h => by cases h) dataCounts_row_tie rfl ⟨rfl, rfl⟩ seat_main rfl
    (fun f fn hf hfn => by
      obtain rfl : f = 9 := Option.some.inj ((show Tryd.prog.funcNamed "grommet/grommetlaw14.DataCounts" = some 9 by kernel_rfl).symm.trans hf) |>.symm
      obtain rfl : fn = Tryd.f9 := (Option.some.inj (Tryd.func9.symm.trans hfn)).symm
      exact ⟨seat_looks, fun j t ht => by
        have hpar : Tryd.f9.params = #[5, 71] := by kernel_rfl
        rw [hpar] at ht
        have hm : t ∈ [5, 71] := by simpa using Array.mem_of_getElem? ht
        have hall : ([5, 71].all fun u => !Tryd.prog.wantsStandIn u) = true := by kernel_rfl
        exact (show Tryd.prog.wantsStandIn t = false by simpa using List.all_eq_true.1 hall t hm)⟩)
    (by kernel_rfl)

end Go.Proofs.YtmmclabkkigiaaaDoor
