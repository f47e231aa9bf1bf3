/- The row and the card of EntryPlays: the Go function answers true for every input that its guards let in; no condition besides. -/
import Derived.Test.YtmmclabkkigiaaaGreatDoorCards
import Derived.Test.YtmmclabkkigiaaaGreatDoorTie
import Derived.Test.YtmmclabkkigiaaaGreatDoorQEP8
set_option linter.unusedVariables false
set_option linter.unusedSimpArgs false
namespace Go.Proofs.YtmmclabkkigiaaaGreatDoor
open Go.ChangeShapes Go.WideShapes Go.ChangeAt Go.RowKit Go.Deep
set_option maxRecDepth 100000 in
theorem entryplays_lifted (os : Os) (started : os.Started) (H : Type) (enc : TypeId × Value → H) :
    ReturnsInHanded {} Tryz.checked os 5 .any (fun w args => (Rows.entryPlaysSpec.pre enc Tryz.prog Tryz.f5 [] false w args ∧ laidMetH Tryz.prog Rows.entryPlaysRow.laid w) ∧ sizedMet enc Tryz.prog Tryz.f5 (OpenSpec.ofChange Rows.entryPlaysSpec) false w args) (Rows.entryPlaysSpec.post enc Tryz.prog Tryz.f5 false true false false) := by
  refine returnsInHanded_of_change_and (C := Tryz.checked) (X := fun w _ => laidMetH Tryz.prog Rows.entryPlaysRow.laid w) (fun _ _ _ hh h => h.of_heap hh) law_own started (by kernel_rfl) Tryz.func5
    (ChangeSpec.witness_shaped (enc := enc) (C := Tryz.checked) (os := os) (X := fun w _ => laidMetH Tryz.prog Rows.entryPlaysRow.laid w) false (World.doorLaid Tryz.prog 400 os) #[.agg #[.int .i64 0, .int .i64 0, .int .i64 0], .slice none 0 0, .int .u16 0, .slice none 0 0] 8 rfl (World.shaped_of_RefB (by kernel_rfl) (by kernel_rfl)) (by kernel_rfl) (by kernel_rfl) (by kernel_rfl) (door_met os _)) ?_
  intro W base args ds gs before hval0 hW _ _ hL _
  have hT := laid_tab hL
  have hpar : Tryz.f5.params = #[31, 49, 50, 51] := by kernel_rfl
  have hval : ∀ (j : Nat) t v, Tryz.f5.params[j]? = some t → args[j]? = some v → Value.okWide Tryz.prog W .any base t v := hval0
  have hW' := hW
  obtain ⟨p, q, hA0, hV, rfl, hfz, hnd⟩ := hW
  have hA : DataW.TrodAll enc Tryz.prog W 0 (fun _ => true) true Tryz.f5.params.toList args.toList ds p := hA0
  rw [hpar] at hA hval
  obtain ⟨v0, vs0, d0, ds0, p0, q0, hargs0, rfl, rfl, h0, r0⟩ := trodAll_cons hA
  obtain ⟨v1, vs1, d1, ds1, p1, q1, hargs1, rfl, rfl, h1, r1⟩ := trodAll_cons r0
  obtain ⟨v2, vs2, d2, ds2, p2, q2, hargs2, rfl, rfl, h2, r2⟩ := trodAll_cons r1
  obtain ⟨v3, vs3, d3, ds3, p3, q3, hargs3, rfl, rfl, h3, r3⟩ := trodAll_cons r2
  obtain ⟨rfl, rfl, rfl⟩ := trodAll_nil r3
  obtain rfl : args = #[v0, v1, v2, v3] := by cases args; simp_all
  clear hA0 hval0 hA
  have hbelow := hW'.lt
  obtain ⟨a0, rfl, z0⟩ := open_agg kGeo good_Geo 6 Tryz.underlying31 (by kernel_rfl) leaf_Geo (hval 0 31 v0 rfl rfl) h0
  obtain ⟨a1, c1, l1, rfl, n1, m1, k1, g1⟩ := open_kind kTn good_Tn (by kernel_rfl) (by kernel_rfl) read_Tn (hval 1 49 v1 rfl rfl) h1
  obtain ⟨a2, rfl, rfl, rfl, w2⟩ := open_int (by kernel_rfl : Tryz.prog.underlying 50 = some (.int .u16)) (hval 2 50 v2 rfl rfl) h2
  have z2 : 0 ≤ a2 ∧ a2 ≤ 65535 := by simpa [Lit.wf, IntKind.min, IntKind.max, IntKind.signed, IntKind.bits] using w2
  obtain ⟨a3, c3, l3, rfl, n3, m3, k3, g3⟩ := open_kind kSt15 good_St15 (by kernel_rfl) (by kernel_rfl) read_St15 (hval 3 51 v3 rfl rfl) h3
  refine (law_calls (entryplays_walk (gw := a0.c0) (gi := a0.c1) (gb := a0.c2) (ts := l1) (cut_ := a2) (ss := l3) _ W rfl hT k1 k3 (entryplays_law z2 g1))).mono fun e W' ⟨he, hB⟩ => ?_
  subst he
  exact law_post (tb := 4) law_laid (by kernel_rfl) rfl (by kernel_rfl) (by kernel_rfl) hW' hB ⟨rfl, rfl, rfl⟩
set_option maxRecDepth 100000 in
theorem entryplays_closed : joinedFacts Tryz.prog 5 Tryz.f5 Rows.entryPlaysSpec Rows.entryPlaysRow = true := by
  unfold joinedFacts
  rw [show (Tryz.prog.make == some Rows.entryPlaysRow.make) = true from seat_make, show (Rows.entryPlaysRow.lifted == Tryz.prog.liftsFinal) = true from seat_lifted, seat_enter]
  kernel_rfl
theorem entryplays_holds : Rows.EntryPlaysSaid :=
  OpenClaim.holds_of_wide 5 Tryz.f5 rfl rfl rfl rfl rfl rfl rfl ⟨rfl, rfl, rfl, rfl, rfl⟩ rfl rfl rfl rfl rfl (by kernel_rfl) Tryz.func5 entryplays_closed
    (of_decide_eq_true (by kernel_rfl)) (by unfold Func.isWrapper; rw [if_neg (by decide +kernel)]; exact ⟨rfl, rfl⟩)
    (fun os started H enc _ => entryplays_lifted os started H enc)
theorem entryplays_card : Rows.EntryPlaysCardSaid :=
  Claim7.holds_tied_plain_at .later [] [.data] true (true, "056a9ebd9aeee0e6afff036bdceb98945e1f9728f64ef0347502c2b89040cba7") false
    entryplays_holds (fun _ h => by cases h) (by kernel_rfl) (fun _ h => by cases h) entryPlays_row_tie rfl ⟨rfl, rfl⟩ seat_main rfl
    (fun f fn hf hfn => by
      obtain rfl : f = 5 := Option.some.inj ((show Tryz.prog.funcNamed "grommet/grommetlaw15.EntryPlays" = some 5 by kernel_rfl).symm.trans hf) |>.symm
      obtain rfl : fn = Tryz.f5 := (Option.some.inj (Tryz.func5.symm.trans hfn)).symm
      exact ⟨seat_looks, fun j t ht => by
        have hpar : Tryz.f5.params = #[31, 49, 50, 51] := by kernel_rfl
        rw [hpar] at ht
        have hm : t ∈ [31, 49, 50, 51] := by simpa using Array.mem_of_getElem? ht
        have hall : ([31, 49, 50, 51].all fun u => !Tryz.prog.wantsStandIn u) = true := by kernel_rfl
        exact (show Tryz.prog.wantsStandIn t = false by simpa using List.all_eq_true.1 hall t hm)⟩)
    (by kernel_rfl)
end Go.Proofs.YtmmclabkkigiaaaGreatDoor
