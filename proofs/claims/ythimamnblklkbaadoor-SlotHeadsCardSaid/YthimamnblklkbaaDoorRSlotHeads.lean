/- The row and the card of SlotHeads: the Go function answers true for every input that its guards let in; no condition besides. -/
import Derived.Test.YthimamnblklkbaaDoorCards
import Derived.Test.YthimamnblklkbaaDoorTie
import Derived.Test.YthimamnblklkbaaDoorLSlotHeads0
set_option linter.unusedVariables false
set_option linter.unusedSimpArgs false
namespace Go.Proofs.YthimamnblklkbaaDoor
open Go.ChangeShapes Go.WideShapes Go.ChangeAt Go.RowKit Go.Deep
set_option linter.unusedVariables false

set_option maxRecDepth 100000 in
theorem slotheads_lifted (os : Os) (started : os.Started) (H : Type) (enc : TypeId × Value → H) :
    ReturnsInHanded {} Tryd.checked os 11 .any (fun w args => (Rows.slotHeadsSpec.pre enc Tryd.prog Tryd.f11 [] false w args ∧ laidMetH Tryd.prog Rows.slotHeadsRow.laid w) ∧ sizedMet enc Tryd.prog Tryd.f11 (OpenSpec.ofChange Rows.slotHeadsSpec) false w args) (Rows.slotHeadsSpec.post enc Tryd.prog Tryd.f11 false true false false) := by
  refine returnsInHanded_of_change_and (C := Tryd.checked) (X := fun w _ => laidMetH Tryd.prog Rows.slotHeadsRow.laid w) (fun _ _ _ hh h => h.of_heap hh) law_own started (by kernel_rfl) Tryd.func11
    (ChangeSpec.witness_shaped (enc := enc) (C := Tryd.checked) (os := os) (X := fun w _ => laidMetH Tryd.prog Rows.slotHeadsRow.laid w) false (World.doorLaid Tryd.prog 400 os) #[.slice none 0 0, .int .u8 0, .agg #[.bool false, .int .u64 0, .int .u64 0], .int .u64 0] 8 rfl (World.shaped_of_RefB (by kernel_rfl) (by kernel_rfl)) (by kernel_rfl) (by kernel_rfl) (by kernel_rfl) (least_met os _)) ?_
  intro W base args ds gs before hval0 hW _ _ hL _
  have hT := laid_least hL
  have hpar : Tryd.f11.params = #[58, 5, 48, 38] := by kernel_rfl
  have hval : ∀ (j : Nat) t v, Tryd.f11.params[j]? = some t → args[j]? = some v → Value.okWide Tryd.prog W .any base t v := hval0
  have hW' := hW
  obtain ⟨p, q, hA0, hV, rfl, hfz, hnd⟩ := hW
  have hA : DataW.TrodAll enc Tryd.prog W 0 (fun _ => true) true Tryd.f11.params.toList args.toList ds p := hA0
  rw [hpar] at hA hval
  obtain ⟨v0, vs0, d0, ds0, p0, q0, hargs0, rfl, rfl, h0, r0⟩ := trodAll_cons hA
  obtain ⟨v1, vs1, d1, ds1, p1, q1, hargs1, rfl, rfl, h1, r1⟩ := trodAll_cons r0
  obtain ⟨v2, vs2, d2, ds2, p2, q2, hargs2, rfl, rfl, h2, r2⟩ := trodAll_cons r1
  obtain ⟨v3, vs3, d3, ds3, p3, q3, hargs3, rfl, rfl, h3, r3⟩ := trodAll_cons r2
  obtain ⟨rfl, rfl, rfl⟩ := trodAll_nil r3
  obtain rfl : args = #[v0, v1, v2, v3] := by cases args; simp_all
  clear hA0 hval0 hA
  have hbelow := hW'.lt
  obtain ⟨a0, c0, l0, rfl, n0, m0, k0, g0⟩ := open_kind kTn good_Tn (by kernel_rfl) (by kernel_rfl) read_Tn (hval 0 58 v0 rfl rfl) h0
  obtain ⟨a1, rfl, rfl, rfl, w1⟩ := open_int (by kernel_rfl : Tryd.prog.underlying 5 = some (.int .u8)) (hval 1 5 v1 rfl rfl) h1
  have z1 : 0 ≤ a1 ∧ a1 ≤ 255 := by simpa [Lit.wf, IntKind.min, IntKind.max, IntKind.signed, IntKind.bits] using w1
  obtain ⟨a2, rfl, z2⟩ := open_agg kHe good_He 6 Tryd.underlying48 (by kernel_rfl) leaf_He (hval 2 48 v2 rfl rfl) h2
  obtain ⟨a3, rfl, rfl, rfl, w3⟩ := open_int (by kernel_rfl : Tryd.prog.underlying 38 = some (.int .u64)) (hval 3 38 v3 rfl rfl) h3
  have z3 : 0 ≤ a3 ∧ a3 ≤ 18446744073709551615 := by simpa [Lit.wf, IntKind.min, IntKind.max, IntKind.signed, IntKind.bits] using w3
  refine (law_calls (slotheads_walk (ts := l0) (i_ := a1) (ho_ := a2.c0) (hg_ := a2.c1) (hk_ := a2.c2) (f_ := a3) _ W rfl hT k0 (slotheads_law z1 z2.1 z2.2 z3 g0))).mono fun e W' ⟨he, hB⟩ => ?_
  subst he
  exact law_post (tb := 4) law_laid (by kernel_rfl) rfl (by kernel_rfl) (by kernel_rfl) hW' hB ⟨rfl, rfl, rfl⟩

set_option maxRecDepth 100000 in
theorem slotheads_closed : joinedFacts Tryd.prog 11 Tryd.f11 Rows.slotHeadsSpec Rows.slotHeadsRow = true := by
  unfold joinedFacts
  rw [show (Tryd.prog.make == some Rows.slotHeadsRow.make) = true from seat_make, show (Rows.slotHeadsRow.lifted == Tryd.prog.liftsFinal) = true from seat_lifted, seat_enter]
  kernel_rfl

theorem slotheads_holds : Rows.SlotHeadsSaid :=
  OpenClaim.holds_of_wide 11 Tryd.f11 rfl rfl rfl rfl rfl rfl rfl ⟨rfl, rfl, rfl, rfl, rfl⟩ rfl rfl rfl rfl rfl (by kernel_rfl) Tryd.func11 slotheads_closed
    (of_decide_eq_true (by kernel_rfl)) (by unfold Func.isWrapper; rw [if_neg (by decide +kernel)]; exact ⟨rfl, rfl⟩)
    (fun os started H enc _ => slotheads_lifted os started H enc)

theorem slotheads_card : Rows.SlotHeadsCardSaid :=
  Claim7.holds_tied_plain_at .later [] [.data] true (true, "3ab6015dd7296eaa053908e3eb4ed2591d5fd4a5803232c1494bf8c197d39bb9") false
    slotheads_holds (fun _ h => by cases h) (by kernel_rfl) (fun _ h => by cases h) slotHeads_row_tie rfl ⟨rfl, rfl⟩ seat_main rfl
    (fun f fn hf hfn => by
      obtain rfl : f = 11 := Option.some.inj ((show Tryd.prog.funcNamed "grommet/grommetlaw10.SlotHeads" = some 11 by kernel_rfl).symm.trans hf) |>.symm
      obtain rfl : fn = Tryd.f11 := (Option.some.inj (Tryd.func11.symm.trans hfn)).symm
      exact ⟨seat_looks, fun j t ht => by
        have hpar : Tryd.f11.params = #[58, 5, 48, 38] := by kernel_rfl
        rw [hpar] at ht
        have hm : t ∈ [58, 5, 48, 38] := by simpa using Array.mem_of_getElem? ht
        have hall : ([58, 5, 48, 38].all fun u => !Tryd.prog.wantsStandIn u) = true := by kernel_rfl
        exact (show Tryd.prog.wantsStandIn t = false by simpa using List.all_eq_true.1 hall t hm)⟩)
    (by kernel_rfl)

end Go.Proofs.YthimamnblklkbaaDoor
