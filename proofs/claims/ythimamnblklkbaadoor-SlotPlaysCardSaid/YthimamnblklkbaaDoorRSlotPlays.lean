/- The row and the card of SlotPlays: the Go function answers true for every input that its guards let in; no condition besides. -/
import Derived.Test.YthimamnblklkbaaDoorCards
import Derived.Test.YthimamnblklkbaaDoorTie
import Derived.Test.YthimamnblklkbaaDoorLSlotPlays0
set_option linter.unusedVariables false
set_option linter.unusedSimpArgs false
namespace Go.Proofs.YthimamnblklkbaaDoor
open Go.ChangeShapes Go.WideShapes Go.ChangeAt Go.RowKit Go.Deep
set_option linter.unusedVariables false

set_option maxRecDepth 100000 in
theorem slotplays_lifted (os : Os) (started : os.Started) (H : Type) (enc : TypeId × Value → H) :
    ReturnsInHanded {} Tryd.checked os 8 .any (fun w args => (Rows.slotPlaysSpec.pre enc Tryd.prog Tryd.f8 [] false w args ∧ laidMetH Tryd.prog Rows.slotPlaysRow.laid w) ∧ sizedMet enc Tryd.prog Tryd.f8 (OpenSpec.ofChange Rows.slotPlaysSpec) false w args) (Rows.slotPlaysSpec.post enc Tryd.prog Tryd.f8 false true false false) := by
  refine returnsInHanded_of_change_and (C := Tryd.checked) (X := fun w _ => laidMetH Tryd.prog Rows.slotPlaysRow.laid w) (fun _ _ _ hh h => h.of_heap hh) law_own started (by kernel_rfl) Tryd.func8
    (ChangeSpec.witness_shaped (enc := enc) (C := Tryd.checked) (os := os) (X := fun w _ => laidMetH Tryd.prog Rows.slotPlaysRow.laid w) false (World.doorLaid Tryd.prog 400 os) #[.slice none 0 0, .int .u16 0, .slice none 0 0] 8 rfl (World.shaped_of_RefB (by kernel_rfl) (by kernel_rfl)) (by kernel_rfl) (by kernel_rfl) (by kernel_rfl) (least_met os _)) ?_
  intro W base args ds gs before hval0 hW _ _ hL _
  have hT := laid_least hL
  have hpar : Tryd.f8.params = #[58, 37, 59] := by kernel_rfl
  have hval : ∀ (j : Nat) t v, Tryd.f8.params[j]? = some t → args[j]? = some v → Value.okWide Tryd.prog W .any base t v := hval0
  have hW' := hW
  obtain ⟨p, q, hA0, hV, rfl, hfz, hnd⟩ := hW
  have hA : DataW.TrodAll enc Tryd.prog W 0 (fun _ => true) true Tryd.f8.params.toList args.toList ds p := hA0
  rw [hpar] at hA hval
  obtain ⟨v0, vs0, d0, ds0, p0, q0, hargs0, rfl, rfl, h0, r0⟩ := trodAll_cons hA
  obtain ⟨v1, vs1, d1, ds1, p1, q1, hargs1, rfl, rfl, h1, r1⟩ := trodAll_cons r0
  obtain ⟨v2, vs2, d2, ds2, p2, q2, hargs2, rfl, rfl, h2, r2⟩ := trodAll_cons r1
  obtain ⟨rfl, rfl, rfl⟩ := trodAll_nil r2
  obtain rfl : args = #[v0, v1, v2] := by cases args; simp_all
  clear hA0 hval0 hA
  have hbelow := hW'.lt
  obtain ⟨a0, c0, l0, rfl, n0, m0, k0, g0⟩ := open_kind kTn good_Tn (by kernel_rfl) (by kernel_rfl) read_Tn (hval 0 58 v0 rfl rfl) h0
  obtain ⟨a1, rfl, rfl, rfl, w1⟩ := open_int (by kernel_rfl : Tryd.prog.underlying 37 = some (.int .u16)) (hval 1 37 v1 rfl rfl) h1
  have z1 : 0 ≤ a1 ∧ a1 ≤ 65535 := by simpa [Lit.wf, IntKind.min, IntKind.max, IntKind.signed, IntKind.bits] using w1
  obtain ⟨a2, c2, l2, rfl, n2, m2, k2, g2⟩ := open_kind kSt10 good_St10 (by kernel_rfl) (by kernel_rfl) read_St10 (hval 2 59 v2 rfl rfl) h2
  refine (law_calls (slotplays_walk (ts := l0) (cut_ := a1) (ss := l2) _ W rfl hT k0 k2 (slotplays_law z1 g0 g2))).mono fun e W' ⟨he, hB⟩ => ?_
  subst he
  exact law_post (tb := 4) law_laid (by kernel_rfl) rfl (by kernel_rfl) (by kernel_rfl) hW' hB ⟨rfl, rfl, rfl⟩

set_option maxRecDepth 100000 in
theorem slotplays_closed : joinedFacts Tryd.prog 8 Tryd.f8 Rows.slotPlaysSpec Rows.slotPlaysRow = true := by
  unfold joinedFacts
  rw [show (Tryd.prog.make == some Rows.slotPlaysRow.make) = true from seat_make, show (Rows.slotPlaysRow.lifted == Tryd.prog.liftsFinal) = true from seat_lifted, seat_enter]
  kernel_rfl

theorem slotplays_holds : Rows.SlotPlaysSaid :=
  OpenClaim.holds_of_wide 8 Tryd.f8 rfl rfl rfl rfl rfl rfl rfl ⟨rfl, rfl, rfl, rfl, rfl⟩ rfl rfl rfl rfl rfl (by kernel_rfl) Tryd.func8 slotplays_closed
    (of_decide_eq_true (by kernel_rfl)) (by unfold Func.isWrapper; rw [if_neg (by decide +kernel)]; exact ⟨rfl, rfl⟩)
    (fun os started H enc _ => slotplays_lifted os started H enc)

theorem slotplays_card : Rows.SlotPlaysCardSaid :=
  Claim7.holds_tied_plain_at .later [] [.data] true (true, "3ab6015dd7296eaa053908e3eb4ed2591d5fd4a5803232c1494bf8c197d39bb9") false
    slotplays_holds (fun _ h => by cases h) (by kernel_rfl) (fun _ h => by cases h) slotPlays_row_tie rfl ⟨rfl, rfl⟩ seat_main rfl
    (fun f fn hf hfn => by
      obtain rfl : f = 8 := Option.some.inj ((show Tryd.prog.funcNamed "grommet/grommetlaw10.SlotPlays" = some 8 by kernel_rfl).symm.trans hf) |>.symm
      obtain rfl : fn = Tryd.f8 := (Option.some.inj (Tryd.func8.symm.trans hfn)).symm
      exact ⟨seat_looks, fun j t ht => by
        have hpar : Tryd.f8.params = #[58, 37, 59] := by kernel_rfl
        rw [hpar] at ht
        have hm : t ∈ [58, 37, 59] := by simpa using Array.mem_of_getElem? ht
        have hall : ([58, 37, 59].all fun u => !Tryd.prog.wantsStandIn u) = true := by kernel_rfl
        exact (show Tryd.prog.wantsStandIn t = false by simpa using List.all_eq_true.1 hall t hm)⟩)
    (by kernel_rfl)

end Go.Proofs.YthimamnblklkbaaDoor
