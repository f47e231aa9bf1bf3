/- The row and the card of AllocPlays, by a program: the Go function answers true for every input. -/
import Derived.Test.YthimamnblklkbaaDoorGD
import Derived.Test.YthimamnblklkbaaDoorPLaPl
import Derived.Test.YthimamnblklkbaaDoorGF
import Derived.Test.YthimamnblklkbaaDoorCards
import Derived.Test.YthimamnblklkbaaDoorTie
import Derived.Test.YthimamnblklkbaaDoorCl
namespace Go.Proofs.YthimamnblklkbaaDoor
open Go.ChangeShapes Go.WideShapes Go.ChangeAt Go.RowKit Go.Deep
set_option linter.unusedVariables false

set_option maxRecDepth 100000 in
theorem allocplays_lifted (os : Os) (started : os.Started) (H : Type) (enc : TypeId × Value → H) :
    ReturnsInHanded {} Tryd.checked os 19 .any (fun w args => (Rows.allocPlaysSpec.pre enc Tryd.prog Tryd.f19 [] false w args ∧ laidMetH Tryd.prog Rows.allocPlaysRow.laid w) ∧ sizedMet enc Tryd.prog Tryd.f19 (OpenSpec.ofChange Rows.allocPlaysSpec) false w args) (Rows.allocPlaysSpec.post enc Tryd.prog Tryd.f19 false true false false) := by
  refine returnsInHanded_of_change_and (C := Tryd.checked) (X := fun w _ => laidMetH Tryd.prog Rows.allocPlaysRow.laid w) (fun _ _ _ hh h => h.of_heap hh) law_own started (by kernel_rfl) Tryd.func19
    (ChangeSpec.witness_shaped (enc := enc) (C := Tryd.checked) (os := os) (X := fun w _ => laidMetH Tryd.prog Rows.allocPlaysRow.laid w) false (World.doorLaid Tryd.prog 400 os) #[.agg #[.int .i64 0, .int .i64 0, .int .i64 0], .slice none 0 0, .int .u16 0, .slice none 0 0] 8 rfl (World.shaped_of_RefB (by kernel_rfl) (by kernel_rfl)) (by kernel_rfl) (by kernel_rfl) (by kernel_rfl) (door_met os _)) ?_
  intro W base args ds gs before hval0 hW _ _ hL _
  have hT := laid_tab hL
  have hpar : Tryd.f19.params = #[63, 139, 37, 132] := by kernel_rfl
  have hval : ∀ (j : Nat) t v, Tryd.f19.params[j]? = some t → args[j]? = some v → Value.okWide Tryd.prog W .any base t v := hval0
  have hW' := hW
  obtain ⟨p, q, hA0, hV, rfl, hfz, hnd⟩ := hW
  have hA : DataW.TrodAll enc Tryd.prog W 0 (fun _ => true) true Tryd.f19.params.toList args.toList ds p := hA0
  rw [hpar] at hA hval
  obtain ⟨v0, vs0, d0, ds0, p0, q0, hargs0, rfl, rfl, h0, r0⟩ := trodAll_cons hA
  obtain ⟨v1, vs1, d1, ds1, p1, q1, hargs1, rfl, rfl, h1, r1⟩ := trodAll_cons r0
  obtain ⟨v2, vs2, d2, ds2, p2, q2, hargs2, rfl, rfl, h2, r2⟩ := trodAll_cons r1
  obtain ⟨v3, vs3, d3, ds3, p3, q3, hargs3, rfl, rfl, h3, r3⟩ := trodAll_cons r2
  obtain ⟨rfl, rfl, rfl⟩ := trodAll_nil r3
  obtain rfl : args = #[v0, v1, v2, v3] := by cases args; simp_all
  clear hA0 hval0 hA
  have hbelow := hW'.lt
  obtain ⟨a0, rfl, z0⟩ := open_agg kGeo good_Geo 6 Tryd.underlying63 (by kernel_rfl) leaf_Geo (hval 0 63 v0 rfl rfl) h0
  obtain ⟨a1, c1, l1, rfl, n1, m1, k1, g1⟩ := open_kind kTn7 good_Tn7 (by kernel_rfl) (by kernel_rfl) read_Tn7 (hval 1 139 v1 rfl rfl) h1
  obtain ⟨a2, rfl, rfl, rfl, w2⟩ := open_int (by kernel_rfl : Tryd.prog.underlying 37 = some (.int .u16)) (hval 2 37 v2 rfl rfl) h2
  have z2 : 0 ≤ a2 ∧ a2 ≤ 65535 := by simpa [Lit.wf, IntKind.min, IntKind.max, IntKind.signed, IntKind.bits] using w2
  obtain ⟨a3, c3, l3, rfl, n3, m3, k3, g3⟩ := open_kind kSt7 good_St7 (by kernel_rfl) (by kernel_rfl) read_St7 (hval 3 132 v3 rfl rfl) h3
  refine (law_calls (allocplays_walk (gw := a0.c0) (gi := a0.c1) (gb := a0.c2) (ts := l1) (cut_ := a2) (ss := l3) _ W rfl hT k1 k3 (allocplays_law g1 z2 g3))).mono fun e W' ⟨he, hB⟩ => ?_
  subst he
  exact law_post (tb := 4) law_laid (by kernel_rfl) rfl (by kernel_rfl) (by kernel_rfl) hW' hB ⟨rfl, rfl, rfl⟩

set_option maxRecDepth 100000 in
theorem allocplays_closed : joinedFacts Tryd.prog 19 Tryd.f19 Rows.allocPlaysSpec Rows.allocPlaysRow = true := by
  unfold joinedFacts
  rw [show (Tryd.prog.make == some Rows.allocPlaysRow.make) = true from seat_make, show (Rows.allocPlaysRow.lifted == Tryd.prog.liftsFinal) = true from seat_lifted, seat_enter]
  kernel_rfl

theorem allocplays_holds : Rows.AllocPlaysSaid :=
  OpenClaim.holds_of_wide 19 Tryd.f19 rfl rfl rfl rfl rfl rfl rfl ⟨rfl, rfl, rfl, rfl, rfl⟩ rfl rfl rfl rfl rfl (by kernel_rfl) Tryd.func19 allocplays_closed
    (of_decide_eq_true (by kernel_rfl)) (by unfold Func.isWrapper; rw [if_neg (by decide +kernel)]; exact ⟨rfl, rfl⟩)
    (fun os started H enc _ => allocplays_lifted os started H enc)

theorem allocplays_card : Rows.AllocPlaysCardSaid :=
  Claim7.holds_tied_plain_at .later [] [.data] true (true, "3ab6015dd7296eaa053908e3eb4ed2591d5fd4a5803232c1494bf8c197d39bb9") false
    allocplays_holds (fun _ h => by cases h) (by kernel_rfl) (fun _ h => by cases h) allocPlays_row_tie rfl ⟨rfl, rfl⟩ seat_main rfl
    (fun f fn hf hfn => by
      obtain rfl : f = 19 := Option.some.inj ((show Tryd.prog.funcNamed "grommet/grommetlaw07.AllocPlays" = some 19 by kernel_rfl).symm.trans hf) |>.symm
      obtain rfl : fn = Tryd.f19 := (Option.some.inj (Tryd.func19.symm.trans hfn)).symm
      exact ⟨seat_looks, fun j t ht => by
        have hpar : Tryd.f19.params = #[63, 139, 37, 132] := by kernel_rfl
        rw [hpar] at ht
        have hm : t ∈ [63, 139, 37, 132] := by simpa using Array.mem_of_getElem? ht
        have hall : ([63, 139, 37, 132].all fun u => !Tryd.prog.wantsStandIn u) = true := by kernel_rfl
        exact (show Tryd.prog.wantsStandIn t = false by simpa using List.all_eq_true.1 hall t hm)⟩)
    (by kernel_rfl)

end Go.Proofs.YthimamnblklkbaaDoor
