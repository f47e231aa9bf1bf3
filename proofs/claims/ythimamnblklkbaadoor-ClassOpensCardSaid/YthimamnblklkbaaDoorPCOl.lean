/- ClassOpens: the law. -/
import Derived.Test.YthimamnblklkbaaDoorPCOp
import Derived.Test.YthimamnblklkbaaDoorGC
namespace Go.Proofs.YthimamnblklkbaaDoor
open Go Go.RowKit
set_option linter.unusedVariables false
set_option linter.unusedSimpArgs false

theorem works11_fin : Ok (· = true) ((works11_M).bind fun r => some r) := by
  rw [works11_eq]
  exact Ok.some rfl
theorem load_zero {img : List Int} {l : List (Int × Int)} {i k : Int} (h0 : thereF img i k = 0) (h : vget img l (slotAt i k) = 0) : loadF img l i k = (0, 0, 0, 0, ByteArray.empty, 0) := by
  unfold loadF
  rw [if_pos h0, if_pos h]
theorem words_least : (wordsOf 1 (2 + 0 % 20) (2 + 0 % 60)).toNat = 536 := by decide +kernel
theorem classopens_law {ts : List TTn} {i_ : Int} {gs : List Int} (ht : ∀ x ∈ ts, good_Tn x) (hi : 0 ≤ i_ ∧ i_ ≤ 255) (hgs : ∀ x ∈ gs, good_u8 x) : classopens_M ts i_ gs = some true := by
  refine Ok.true ?_
  unfold classopens_M
  refine Ok.ite (fun _ => works11_fin) fun h40 => ?_
  refine Ok.ite (fun _ => works11_fin) fun h41 => ?_
  refine Ok.need (by omega) (Ok.need (by omega) (Ok.need (by omega) ?_))
  refine Ok.bind (image_u64 (gw := 1) (gi := 2 + 0 % 20) (gb := 2 + 0 % 60) (by omega) ht (by omega)) fun ws hws => ?_
  have hlen : ws.length = 536 := by rw [hws.2.2 rfl, words_least]
  have hs4 := Int.tmod_eq_emod_of_nonneg (b := 4) hi.1
  obtain ⟨s, hs⟩ : ∃ s, s = i_.tmod 4 := ⟨_, rfl⟩
  have hsl : 0 ≤ s ∧ s < 4 := by omega
  have a0 : sessAt s = 8 + 64 * s := by unfold sessAt; rw [if_pos (by omega)]
  -- the opening and closing
  have main : ∀ q : List Int, q.length = 536 → (∀ x ∈ q, U64 x) → q.getD (8 + 64 * s).toNat 0 = 0 → q.getD (9 + 64 * s).toNat 0 = 0 → Ok (· = true) (classopens_J1 i_ gs ws q) := by
    intro q hq hu z0 z1
    unfold classopens_J1
    refine Ok.iter (fun t => t.1.length = 536 ∧ t.2.1 = 536 ∧ (∀ x ∈ t.1, U64 x) ∧ (0 ≤ t.2.2.1 ∧ t.2.2.1 ≤ 6) ∧ vget t.1 [] (sessAt s) = (if t.2.2.2.1 = true then 1 else 0) ∧ vget t.1 [] (sessAt s + 1) = t.2.2.1 ∧ 0 ≤ t.2.2.2.2) (fun t => ((gs.length : Int) - t.2.2.2.2).toNat) ?_ _ _ ⟨hq, hlen, hu, by simp, ?_, ?_, by simp⟩ (fuel_lt (by simp only; omega))
    · rintro k ⟨q, n, gen, o, p⟩ ⟨t1, t2, t3, t4, t5, t6, t7⟩ ih
      simp only at t1 t2 t3 t4 t5 t6 t7 ih
      subst t2
      have hv : VJ q [] := ⟨VR.nil t3, VOk.nil (by omega)⟩
      have h0 : thereF q s 0 = 0 := thereF_in (by omega) (by omega) (by omega)
      -- what is behind a call
      have J4 : ∀ (l : List (Int × Int)) (g' : Int) (o' : Bool), p < (gs.length : Int) → VJ q l → Frame q l s → (0 ≤ g' ∧ g' ≤ 6) → vget q l (sessAt s) = (if o' = true then 1 else 0) → vget q l (sessAt s + 1) = g' → Ok (· = true) (classopens_J4 i_ k q 536 p g' o' l) := by
        intro l g' o' hp hl hf hg ho hn
        have hfl := vflat_length q l
        unfold classopens_J4
        refine Ok.yes (by omega) ?_
        refine Ok.iter (fun j => 0 ≤ j) (fun j => (536 - j).toNat) ?_ _ _ (by omega) (fuel_lt (by omega))
        intro k2 j hj ih2
        unfold classopens_B2
        rw [← hs, a0]
        have same : j < 536 → ¬ (8 + 64 * s ≤ j ∧ j < 72 + 64 * s) → (vflat q l).getD j.toNat 0 = q.getD j.toNat 0 := by
          intro h1 h2
          rw [vflat_get hl.2 (by omega), ← vget_nil (img := q) (by omega)]
          exact hf _ (by omega)
        refine Ok.ite (fun hj2 => ?_) (fun hj2 => ?_)
        · refine Ok.ite (fun c => ?_) (fun c => ?_)
          · refine Ok.need (by omega) (Ok.need (by omega) (Ok.need (by omega) (Ok.yes (same (by omega) (by omega)) (Ok.need (by omega) (ih2 _ (by omega) (by omega))))))
          · refine Ok.need (by omega) ?_
            refine Ok.ite (fun c2 => ?_) (fun c2 => ?_)
            · refine Ok.need (by omega) (Ok.need (by omega) (Ok.need (by omega) (Ok.yes (same (by omega) (by omega)) (Ok.need (by omega) (ih2 _ (by omega) (by omega))))))
            · exact Ok.need (by omega) (ih2 _ (by omega) (by omega))
        · refine Ok.need (by omega) ?_
          refine ih _ ⟨by simp only; omega, by simp only; omega, u64_flat hl.2 hl.1, hg, ?_, ?_, by simp only; omega⟩ (by simp only; omega)
          · simp only; rw [vget_flat hl.2]; exact ho
          · simp only; rw [vget_flat hl.2]; exact hn
      have J3z : ∀ c : Int, p < (gs.length : Int) → Ok (· = true) (classopens_J3 i_ k q 536 p gen o [] c) := by
        intro c hp
        have e := J4 [] gen o hp hv (fun j _ => rfl) t4 t5 t6
        unfold classopens_J3
        exact Ok.ite (fun _ => e) fun _ => Ok.no (by simp) e
      unfold classopens_B1
      simp only
      refine Ok.ite (fun hp => ?_) (fun _ => works11_fin)
      have hpn : p.toNat < gs.length := by omega
      have hmem : gs.getD p.toNat 0 ∈ gs := by simp [List.getD, hpn]
      have hx := hgs _ hmem
      unfold good_u8 at hx
      generalize gs.getD p.toNat 0 = x at hx
      have x2 : x.tdiv 2 = x / 2 := Int.tdiv_eq_ediv_of_nonneg hx.1
      have x6 : (x / 2).tmod 6 = x / 2 % 6 := Int.tmod_eq_emod_of_nonneg (by omega)
      rw [x2, x6, ← hs]
      refine Ok.need (by omega) (Ok.need (by omega) (Ok.need (by omega) (Ok.need (by omega) (Ok.need (by omega) ?_))))
      refine Ok.name fun g hg => ?_
      have hg6 : 1 ≤ g ∧ g ≤ 6 := by omega
      refine Ok.need (by omega) ?_
      refine Ok.ite (fun _ => ?_) (fun _ => ?_)
      · obtain ⟨R1, R2, R3, R4⟩ := ropen_in hv h0 t5 t6 t4 hg6
        rw [copen_eq hv.1]
        -- what is not new
        have J6 : ∀ c : Int, ¬ c = 0 → Ok (· = true) (classopens_J6 i_ k q 536 p (c, 0, []) gen o c) := by
          intro c hc
          unfold classopens_J6
          refine Ok.yes rfl (Ok.yes rfl ?_)
          rw [← hs, cof_eq hv.1]
          refine Ok.bind (rof_ok hv.1 s gen (by unfold U64; omega)) fun r _ => ?_
          exact Ok.no hc (J3z c hp)
        by_cases c1 : o = true ∧ g = gen
        · rw [R1 c1]
          refine Ok.name fun r hr => ?_
          subst hr
          refine Ok.yes c1.1 ?_
          rw [decide_eq_true c1.2]
          unfold classopens_J7
          have := J6 1 (by decide)
          rw [c1.1] at this
          exact Ok.yes rfl this
        · by_cases c2 : g ≤ gen
          · rw [R2 ⟨c1, c2⟩]
            refine Ok.name fun r hr => ?_
            subst hr
            have e := J6 2 (by decide)
            refine Ok.ite (fun h => ?_) (fun h => ?_)
            · rw [decide_eq_false (fun h2 => c1 ⟨h, h2⟩)]
              unfold classopens_J7
              rw [h] at e
              exact Ok.no (by decide) (Ok.yes c2 e)
            · have h' : o = false := by simpa using h
              unfold classopens_J7
              rw [h'] at e
              exact Ok.no (by decide) (Ok.yes c2 e)
          · by_cases c3 : o = true ∨ ¬ g = gen + 1
            · rw [R3 ⟨by omega, c3⟩]
              refine Ok.name fun r hr => ?_
              subst hr
              have e := J6 3 (by decide)
              refine Ok.ite (fun h => ?_) (fun h => ?_)
              · rw [decide_eq_false (by omega)]
                unfold classopens_J7
                rw [h] at e
                refine Ok.no (by decide) (Ok.no c2 (Ok.yes rfl ?_))
                unfold classopens_J8
                exact Ok.no (by decide) e
              · have h' : o = false := by simpa using h
                have hne : ¬ g = gen + 1 := by
                  rcases c3 with c | c
                  · exact absurd c h
                  · exact c
                unfold classopens_J7
                rw [h'] at e
                refine Ok.no (by decide) (Ok.no c2 (Ok.no (by decide) ?_))
                rw [decide_eq_false (by omega)]
                unfold classopens_J8
                exact Ok.no (by decide) e
            · have h' : o = false := by
                cases o
                · rfl
                · exact absurd (Or.inl rfl) c3
              have hge : g = gen + 1 := by omega
              obtain ⟨m, e, v, f, m0, m1, m2, m3⟩ := R4 ⟨h', hge⟩
              rw [e]
              refine Ok.name fun r hr => ?_
              subst hr
              refine Ok.no (by rw [h']; decide) ?_
              unfold classopens_J7
              refine Ok.no (by decide) (Ok.no c2 (Ok.no (by decide) ?_))
              rw [decide_eq_true (by omega)]
              unfold classopens_J8
              refine Ok.yes rfl ?_
              unfold classopens_J6
              refine Ok.yes rfl (Ok.yes rfl ?_)
              have h1 : thereF q s 1 = 0 := thereF_in (by omega) (by omega) (by omega)
              rw [← hs, cof_eq v.1, rof_in v.1 h0 m0 m1 (by omega), m2, if_neg (by omega), if_neg (by omega), show (1 : Int).tmod 4 = 1 from rfl, load_zero h1 m3]
              rw [if_pos rfl, if_neg (by decide)]
              refine Ok.name fun r hr => ?_
              subst hr
              refine Ok.yes rfl (Ok.yes rfl (Ok.yes rfl ?_))
              unfold classopens_J3
              exact Ok.yes rfl (J4 m g true hp v f (by omega) m0 m1)
      · obtain ⟨R1, R2, R3, R4⟩ := rclose_in hv h0 t5 t6 t4 hg6
        rw [cclose_eq hv.1]
        have J9 : ∀ c : Int, Ok (· = true) (classopens_J9 i_ k q 536 gen p (c, 0, []) o c) := by
          intro c
          unfold classopens_J9
          exact Ok.yes rfl (Ok.yes rfl (J3z c hp))
        by_cases c1 : g < gen
        · rw [R1 c1]
          refine Ok.name fun r hr => ?_
          subst hr
          exact Ok.yes c1 (J9 2)
        · by_cases c2 : g > gen
          · rw [R2 c2]
            refine Ok.name fun r hr => ?_
            subst hr
            refine Ok.no c1 (Ok.no (by omega) ?_)
            unfold classopens_J10
            exact Ok.no (by decide) (Ok.no (by omega) (J9 3))
          · have c3 : g = gen := by omega
            cases ho : o with
            | false =>
              rw [R3 ⟨c3, ho⟩]
              refine Ok.name fun r hr => ?_
              subst hr
              refine Ok.no c1 (Ok.yes c3 ?_)
              unfold classopens_J10
              have := J9 1
              rw [ho] at this
              exact Ok.no (by decide) (Ok.yes c3 this)
            | true =>
              obtain ⟨m, e, v, f, m0, m1⟩ := R4 ⟨c3, ho⟩
              rw [e]
              refine Ok.name fun r hr => ?_
              subst hr
              refine Ok.no c1 (Ok.yes c3 ?_)
              unfold classopens_J10
              refine Ok.yes rfl ?_
              unfold classopens_J9
              refine Ok.yes rfl (Ok.yes rfl ?_)
              unfold classopens_J3
              exact Ok.yes rfl (J4 m gen false hp v f t4 m0 m1)
    · simp only
      rw [a0, show (8 + 64 * s : Int) = (((8 + 64 * s).toNat : Nat) : Int) by omega, vget_nil (by omega), z0]
      rfl
    · simp only
      rw [a0, show (8 + 64 * s + 1 : Int) = (((9 + 64 * s).toNat : Nat) : Int) by omega, vget_nil (by omega), z1]
  -- the session's words made noughts
  refine Ok.iter (fun t => t.1.length = 536 ∧ (∀ x ∈ t.1, U64 x) ∧ 0 ≤ t.2 ∧ t.2 ≤ 64 ∧ (0 < t.2 → t.1.getD (8 + 64 * s).toNat 0 = 0) ∧ (1 < t.2 → t.1.getD (9 + 64 * s).toNat 0 = 0)) (fun t => (64 - t.2).toNat) ?_ _ _ ⟨hlen, hws.2.1, by simp, by simp, by simp, by simp⟩ (fuel_lt (by simp only; omega))
  rintro k ⟨q, p⟩ ⟨t1, t2, t3, t4, t5, t6⟩ ih
  simp only at t1 t2 t3 t4 t5 t6 ih
  unfold classopens_B0
  simp only
  rw [← hs, a0]
  refine Ok.ite (fun hp => ?_) (fun hp => main q t1 t2 (t5 (by omega)) (t6 (by omega)))
  refine Ok.need (by omega) (Ok.need (by omega) (Ok.need (by omega) (Ok.need (by omega) ?_)))
  refine ih _ ⟨by simp only [List.length_set]; exact t1, ?_, by simp only; omega, by simp only; omega, ?_, ?_⟩ (by simp only; omega)
  · intro x hx
    rcases List.mem_or_eq_of_mem_set hx with h | h
    · exact t2 x h
    · rw [h]; exact u64_zero
  · intro _
    simp only
    rw [getD_set]
    by_cases h : (8 + 64 * s + p).toNat = (8 + 64 * s).toNat ∧ (8 + 64 * s).toNat < q.length
    · rw [if_pos h]
    · rw [if_neg h]; exact t5 (by omega)
  · intro h1
    simp only at h1 ⊢
    rw [getD_set]
    by_cases h : (8 + 64 * s + p).toNat = (9 + 64 * s).toNat ∧ (9 + 64 * s).toNat < q.length
    · rw [if_pos h]
    · rw [if_neg h]; exact t6 (by omega)
end Go.Proofs.YthimamnblklkbaaDoor
