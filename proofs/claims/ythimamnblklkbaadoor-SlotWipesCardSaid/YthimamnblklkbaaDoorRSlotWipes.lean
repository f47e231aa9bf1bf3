/- The row and the card of SlotWipes: the Go function answers true for every input that its guards let in; no condition besides. -/
import Derived.Test.YthimamnblklkbaaDoorCards
import Derived.Test.YthimamnblklkbaaDoorTie
import Derived.Test.YthimamnblklkbaaDoorLSlotWipes0
set_option linter.unusedVariables false
set_option linter.unusedSimpArgs false
namespace Go.Proofs.YthimamnblklkbaaDoor
open Go.ChangeShapes Go.WideShapes Go.ChangeAt Go.RowKit Go.Deep
set_option linter.unusedVariables false

set_option maxRecDepth 100000 in
theorem slotwipes_lifted (os : Os) (started : os.Started) (H : Type) (enc : TypeId × Value → H) :
    ReturnsInHanded {} Tryd.checked os 10 .any (fun w args => (Rows.slotWipesSpec.pre enc Tryd.prog Tryd.f10 [] false w args ∧ laidMetH Tryd.prog Rows.slotWipesRow.laid w) ∧ sizedMet enc Tryd.prog Tryd.f10 (OpenSpec.ofChange Rows.slotWipesSpec) false w args) (Rows.slotWipesSpec.post enc Tryd.prog Tryd.f10 false true false false) := by
  refine returnsInHanded_of_change_and (C := Tryd.checked) (X := fun w _ => laidMetH Tryd.prog Rows.slotWipesRow.laid w) (fun _ _ _ hh h => h.of_heap hh) law_own started (by kernel_rfl) Tryd.func10
    (ChangeSpec.witness_shaped (enc := enc) (C := Tryd.checked) (os := os) (X := fun w _ => laidMetH Tryd.prog Rows.slotWipesRow.laid w) false (World.doorLaid Tryd.prog 400 os) #[.slice none 0 0, .int .u8 0] 8 rfl (World.shaped_of_RefB (by kernel_rfl) (by kernel_rfl)) (by kernel_rfl) (by kernel_rfl) (by kernel_rfl) (least_met os _)) ?_
  intro W base args ds gs before hval0 hW _ _ hL _
  have hT := laid_least hL
  have hpar : Tryd.f10.params = #[58, 5] := by kernel_rfl
  have hval : ∀ (j : Nat) t v, Tryd.f10.params[j]? = some t → args[j]? = some v → Value.okWide Tryd.prog W .any base t v := hval0
  have hW' := hW
  obtain ⟨p, q, hA0, hV, rfl, hfz, hnd⟩ := hW
  have hA : DataW.TrodAll enc Tryd.prog W 0 (fun _ => true) true Tryd.f10.params.toList args.toList ds p := hA0
  rw [hpar] at hA hval
  obtain ⟨v0, vs0, d0, ds0, p0, q0, hargs0, rfl, rfl, h0, r0⟩ := trodAll_cons hA
  obtain ⟨v1, vs1, d1, ds1, p1, q1, hargs1, rfl, rfl, h1, r1⟩ := trodAll_cons r0
  obtain ⟨rfl, rfl, rfl⟩ := trodAll_nil r1
  obtain rfl : args = #[v0, v1] := by cases args; simp_all
  clear hA0 hval0 hA
  have hbelow := hW'.lt
  obtain ⟨a0, c0, l0, rfl, n0, m0, k0, g0⟩ := open_kind kTn good_Tn (by kernel_rfl) (by kernel_rfl) read_Tn (hval 0 58 v0 rfl rfl) h0
  obtain ⟨a1, rfl, rfl, rfl, w1⟩ := open_int (by kernel_rfl : Tryd.prog.underlying 5 = some (.int .u8)) (hval 1 5 v1 rfl rfl) h1
  have z1 : 0 ≤ a1 ∧ a1 ≤ 255 := by simpa [Lit.wf, IntKind.min, IntKind.max, IntKind.signed, IntKind.bits] using w1
  refine (law_calls (slotwipes_walk (ts := l0) (i_ := a1) _ W rfl hT k0 (slotwipes_law z1 g0))).mono fun e W' ⟨he, hB⟩ => ?_
  subst he
  exact law_post (tb := 4) law_laid (by kernel_rfl) rfl (by kernel_rfl) (by kernel_rfl) hW' hB ⟨rfl, rfl, rfl⟩

set_option maxRecDepth 100000 in
theorem slotwipes_closed : joinedFacts Tryd.prog 10 Tryd.f10 Rows.slotWipesSpec Rows.slotWipesRow = true := by
  unfold joinedFacts
  rw [show (Tryd.prog.make == some Rows.slotWipesRow.make) = true from seat_make, show (Rows.slotWipesRow.lifted == Tryd.prog.liftsFinal) = true from seat_lifted, seat_enter]
  kernel_rfl

theorem slotwipes_holds : Rows.SlotWipesSaid :=
  OpenClaim.holds_of_wide 10 Tryd.f10 rfl rfl rfl rfl rfl rfl rfl ⟨rfl, rfl, rfl, rfl, rfl⟩ rfl rfl rfl rfl rfl (by kernel_rfl) Tryd.func10 slotwipes_closed
    (of_decide_eq_true (by kernel_rfl)) (by unfold Func.isWrapper; rw [if_neg (by decide +kernel)]; exact ⟨rfl, rfl⟩)
    (fun os started H enc _ => slotwipes_lifted os started H enc)

theorem slotwipes_card : Rows.SlotWipesCardSaid :=
  Claim7.holds_tied_plain_at .later [] [.data] true (true, "3ab6015dd7296eaa053908e3eb4ed2591d5fd4a5803232c1494bf8c197d39bb9") false
    slotwipes_holds (fun _ h => by cases h) (by kernel_rfl) (fun _ h => by cases h) slotWipes_row_tie rfl ⟨rfl, rfl⟩ seat_main rfl
    (fun f fn hf hfn => by
      obtain rfl : f = 10 := Option.some.inj ((show Tryd.prog.funcNamed "grommet/grommetlaw10.SlotWipes" = some 10 by kernel_rfl).symm.trans hf) |>.symm
      obtain rfl : fn = Tryd.f10 := (Option.some.inj (Tryd.func10.symm.trans hfn)).symm
      exact ⟨seat_looks, fun j t ht => by
        have hpar : Tryd.f10.params = #[58, 5] := by kernel_rfl
        rw [hpar] at ht
        have hm : t ∈ [58, 5] := by simpa using Array.mem_of_getElem? ht
        have hall : ([58, 5].all fun u => !Tryd.prog.wantsStandIn u) = true := by kernel_rfl
        exact (show Tryd.prog.wantsStandIn t = false by simpa using List.all_eq_true.1 hall t hm)⟩)
    (by kernel_rfl)

end Go.Proofs.YthimamnblklkbaaDoor
