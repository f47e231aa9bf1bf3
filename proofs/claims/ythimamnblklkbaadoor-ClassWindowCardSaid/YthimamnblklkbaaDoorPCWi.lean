/- ClassWindow: its plain law. -/
import Derived.Test.YthimamnblklkbaaDoorPCe
import Derived.Test.YthimamnblklkbaaDoorGM
import Derived.Test.YthimamnblklkbaaDoorALcWi
namespace Go.Proofs.YthimamnblklkbaaDoor
open Go Go.RowKit
set_option linter.unusedVariables false
set_option linter.unusedSimpArgs false

theorem works11_done : Ok (· = true) ((works11_M).bind fun r => some r) := by
  rw [works11_eq]
  exact Ok.some rfl
def winI (F : List Int) (s : Nat) (g m a b c d : Int) : List Int := ((((((F.set (8 + 64 * s) 1).set (9 + 64 * s) g).set (10 + 64 * s) m).set (16 + 64 * s) a).set (28 + 64 * s) b).set (40 + 64 * s) c).set (52 + 64 * s) d
theorem winI_get {F : List Int} {s : Nat} {g m a b c d : Int} (hF : F.length = 536) (k : Nat) (hk : k < 536) : vget (winI F s g m a b c d) [] (k : Int) =
    if 52 + 64 * s = k then d else if 40 + 64 * s = k then c else if 28 + 64 * s = k then b else if 16 + 64 * s = k then a else if 10 + 64 * s = k then m else if 9 + 64 * s = k then g else if 8 + 64 * s = k then 1 else F.getD k 0 := by
  rw [vget_nil (by simp only [winI, List.length_set]; omega)]
  simp only [winI, getD_set, List.length_set, hF, hk, and_true]
theorem least_zero : ∀ s : Nat, s < 4 → ∀ k : Nat, k < 4 → (fmtW 1 (2 + 0 % 20) (2 + 0 % 60)).getD (17 + 64 * s + 12 * k) 0 = 0 := by decide +kernel
theorem least_len : (fmtW 1 (2 + 0 % 20) (2 + 0 % 60)).length = 536 := by decide +kernel
theorem classwindow_law {i_ g_ m_ s0_ s1_ s2_ s3_ : Int} (hi : 0 ≤ i_ ∧ i_ ≤ 255) (hg : 0 ≤ g_ ∧ g_ ≤ 18446744073709551615) (hm : 0 ≤ m_ ∧ m_ ≤ 18446744073709551615)
    (h0 : 0 ≤ s0_ ∧ s0_ ≤ 18446744073709551615) (h1 : 0 ≤ s1_ ∧ s1_ ≤ 18446744073709551615) (h2 : 0 ≤ s2_ ∧ s2_ ≤ 18446744073709551615) (h3 : 0 ≤ s3_ ∧ s3_ ≤ 18446744073709551615) : classwindow_M i_ g_ m_ s0_ s1_ s2_ s3_ = some true := by
  refine Ok.true ?_
  have hs4 := Int.tmod_eq_emod_of_nonneg (b := 4) hi.1
  obtain ⟨s, hs⟩ := Int.eq_ofNat_of_zero_le (show 0 ≤ i_.tmod 4 by omega)
  have hsl : s < 4 := by omega
  have hmm := Int.tmod_eq_emod_of_nonneg (b := 1099511627766) hm.1
  have hz := least_zero s hsl
  have hlen := least_len
  have hu : ∀ x ∈ fmtW 1 (2 + 0 % 20) (2 + 0 % 60), U64 x := fmtW_u64
  unfold classwindow_M
  have eB : (fun (k_ : (Int × Int) → Option Bool) (s_ : Int × Int) => classwindow_B1 i_ g_ m_ s0_ s1_ s2_ s3_ k_ s_.1 s_.2) = fun k_ s_ => classwindow_B1 i_ g_ m_ s0_ s1_ s2_ s3_ k_ s_.1 s_.2 := rfl
  have a0 : sessAt ((s : Nat) : Int) = 8 + 64 * (s : Int) := by unfold sessAt; rw [if_pos (by omega)]
  have a1 : ∀ k : Int, 0 ≤ k ∧ k < 4 → slotAt ((s : Nat) : Int) k = 16 + 64 * (s : Int) + 12 * k := by intro k hk; unfold slotAt; rw [if_pos (by omega)]
  have b0 := a1 0 (by omega)
  have b1 := a1 1 (by omega)
  have b2 := a1 2 (by omega)
  have b3 := a1 3 (by omega)
  have eI : ∀ F : List Int, (((((((F.set ((sessAt (i_.tmod 4)).toNat) 1).set (((sessAt (i_.tmod 4)) + 1).toNat) g_).set (((sessAt (i_.tmod 4)) + 2).toNat) (m_.tmod 1099511627766)).set ((slotAt (i_.tmod 4) 0).toNat) s0_).set ((slotAt (i_.tmod 4) 1).toNat) s1_).set ((slotAt (i_.tmod 4) 2).toNat) s2_).set ((slotAt (i_.tmod 4) 3).toNat) s3_) = winI F s g_ (m_.tmod 1099511627766) s0_ s1_ s2_ s3_ := by
    intro F
    unfold winI
    rw [hs, a0, b0, b1, b2, b3, show (8 + 64 * (s : Int)).toNat = 8 + 64 * s by omega, show (8 + 64 * (s : Int) + 1).toNat = 9 + 64 * s by omega, show (8 + 64 * (s : Int) + 2).toNat = 10 + 64 * s by omega,
      show (16 + 64 * (s : Int) + 12 * 0).toNat = 16 + 64 * s by omega, show (16 + 64 * (s : Int) + 12 * 1).toNat = 28 + 64 * s by omega, show (16 + 64 * (s : Int) + 12 * 2).toNat = 40 + 64 * s by omega, show (16 + 64 * (s : Int) + 12 * 3).toNat = 52 + 64 * s by omega]
  simp only [eI, List.length_set, hlen]
  generalize hmx : m_.tmod 1099511627766 = m at *
  have hm' : 0 ≤ m ∧ m < 1099511627766 := by omega
  generalize hFF : fmtW 1 (2 + 0 % 20) (2 + 0 % 60) = F at *
  have hwl : (winI F s g_ m s0_ s1_ s2_ s3_).length = 536 := by simp only [winI, List.length_set]; exact hlen
  rw [hs, a0, b0, b1, b2, b3, hwl]
  have w0 : vget (winI F s g_ m s0_ s1_ s2_ s3_) [] (8 + 64 * (s : Int)) = 1 := by
    have := winI_get (s := s) (g := g_) (m := m) (a := s0_) (b := s1_) (c := s2_) (d := s3_) hlen (8 + 64 * s) (by omega)
    rw [if_neg (by omega), if_neg (by omega), if_neg (by omega), if_neg (by omega), if_neg (by omega), if_neg (by omega), if_pos (by omega)] at this
    exact this
  have w1 : vget (winI F s g_ m s0_ s1_ s2_ s3_) [] (8 + 64 * (s : Int) + 1) = g_ := by
    have := winI_get (s := s) (g := g_) (m := m) (a := s0_) (b := s1_) (c := s2_) (d := s3_) hlen (9 + 64 * s) (by omega)
    rw [if_neg (by omega), if_neg (by omega), if_neg (by omega), if_neg (by omega), if_neg (by omega), if_pos (by omega)] at this
    refine Eq.trans ?_ this; congr 1; omega
  have w2 : vget (winI F s g_ m s0_ s1_ s2_ s3_) [] (8 + 64 * (s : Int) + 2) = m := by
    have := winI_get (s := s) (g := g_) (m := m) (a := s0_) (b := s1_) (c := s2_) (d := s3_) hlen (10 + 64 * s) (by omega)
    rw [if_neg (by omega), if_neg (by omega), if_neg (by omega), if_neg (by omega), if_pos (by omega)] at this
    refine Eq.trans ?_ this; congr 1; omega
  have wk : ∀ k : Int, 0 ≤ k ∧ k < 4 → vget (winI F s g_ m s0_ s1_ s2_ s3_) [] (slotAt (s : Int) k) = (if k = 0 then s0_ else if k = 1 then s1_ else if k = 2 then s2_ else s3_) ∧ vget (winI F s g_ m s0_ s1_ s2_ s3_) [] (slotAt (s : Int) k + 1) = 0 := by
    intro k hk
    obtain ⟨j, rfl⟩ := Int.eq_ofNat_of_zero_le hk.1
    have hj : j < 4 := by omega
    rw [a1 _ hk]
    have q0 := winI_get (s := s) (g := g_) (m := m) (a := s0_) (b := s1_) (c := s2_) (d := s3_) hlen (16 + 64 * s + 12 * j) (by omega)
    have q1 := winI_get (s := s) (g := g_) (m := m) (a := s0_) (b := s1_) (c := s2_) (d := s3_) hlen (17 + 64 * s + 12 * j) (by omega)
    rw [hz j hj] at q1
    constructor
    · rw [show (16 + 64 * (s : Int) + 12 * (j : Int)) = ((16 + 64 * s + 12 * j : Nat) : Int) by omega, q0]
      have : j = 0 ∨ j = 1 ∨ j = 2 ∨ j = 3 := by omega
      rcases this with rfl | rfl | rfl | rfl
      · rw [if_neg (by omega), if_neg (by omega), if_neg (by omega), if_pos (by omega)]; rfl
      · rw [if_neg (by omega), if_neg (by omega), if_pos (by omega)]; rfl
      · rw [if_neg (by omega), if_pos (by omega)]; rfl
      · rw [if_pos (by omega)]; rfl
    · rw [show (16 + 64 * (s : Int) + 12 * (j : Int) + 1) = ((17 + 64 * s + 12 * j : Nat) : Int) by omega, q1]
      rw [if_neg (by omega), if_neg (by omega), if_neg (by omega), if_neg (by omega), if_neg (by omega), if_neg (by omega), if_neg (by omega)]
  have hv : VR (winI F s g_ m s0_ s1_ s2_ s3_) [] := by
    intro k
    by_cases hk : 0 ≤ k ∧ k < ((winI F s g_ m s0_ s1_ s2_ s3_).length : Int)
    · obtain ⟨j, rfl⟩ := Int.eq_ofNat_of_zero_le hk.1
      rw [winI_get hlen j (by omega)]
      have := getD_u64 hu j
      unfold U64 at *
      repeat' split
      all_goals omega
    · rw [vget_out hk]; exact u64_zero
  have ht : ∀ k : Int, 0 ≤ k ∧ k < 4 → thereF (winI F s g_ m s0_ s1_ s2_ s3_) (s : Int) k = 0 := fun k hk => thereF_in (by omega) hk (by omega)
  generalize hI : winI F s g_ m s0_ s1_ s2_ s3_ = I at *
  rw [← a0] at w0 w1 w2
  iterate 20 refine Ok.need (by first | omega | exact True.intro) ?_
  refine Ok.name fun n0 hn0 => ?_
  have hmax : mx m 3 = if m < 3 then 3 else m := by unfold mx; repeat' split
                                                    all_goals omega
  have hn : (m < 3 → n0 = 1) ∧ (3 ≤ m → n0 = m - 2) := by rw [hn0, hmax]; split <;> omega
  refine Ok.iter (fun t => 1 ≤ t.2 ∧ t.2 ≤ m + 9 ∧ (t.2 ≤ m + 1 → t.1 = 0) ∧ (m + 1 ≤ t.2 ∧ t.2 ≤ m + 5 → t.1 = t.2 - 1 - m) ∧ (m + 5 ≤ t.2 → t.1 = 4)) (fun t => (m + 9 - t.2).toNat) ?_ _ _ ⟨by simp only; omega, by simp only; omega, fun _ => rfl, by simp only; omega, by simp only; omega⟩ (fuel_lt (by simp only; omega))
  rintro k ⟨p, n⟩ ⟨t1, t2, t3, t4, t5⟩ ih
  simp only at t1 t2 t3 t4 t5 ih
  have J4a : m < n ∧ n ≤ m + 4 → Ok (· = true) (classwindow_J4 k p n true) := by
    intro h
    unfold classwindow_J4
    refine Ok.yes rfl (Ok.need (by omega) (Ok.name fun r hr => ?_))
    exact ih _ ⟨by simp only; omega, by simp only; omega, by simp only; omega, by simp only; omega, by simp only; omega⟩ (by simp only; omega)
  have J4b : n < m + 9 → ¬ (m < n ∧ n ≤ m + 4) → Ok (· = true) (classwindow_J4 k p n false) := by
    intro h9 h
    unfold classwindow_J4
    refine Ok.no (by decide) (Ok.name fun r hr => ?_)
    exact ih _ ⟨by simp only; omega, by simp only; omega, by simp only; omega, by simp only; omega, by simp only; omega⟩ (by simp only; omega)
  unfold classwindow_B1
  simp only [eI, hmx, hFF, hI]
  rw [hs]
  have hcl : ¬ vget I [] (sessAt (s : Int) + 1) = (g_ + 1) % 18446744073709551616 := by rw [w1]; omega
  refine Ok.ite (fun h9 => ?_) (fun h9 => ?_)
  · rw [cof_eq hv, rof_in hv (ht 0 (by omega)) w0 w1 (by omega), w2]
    simp only [Option.bind]
    have e4 : (m + 4) % 18446744073709551616 = m + 4 := by omega
    have h9' : n < m + 9 := by omega
    rw [e4]
    by_cases c1 : n ≤ m
    · rw [if_pos c1]
      refine Ok.yes rfl (Ok.yes ⟨fun _ => c1, fun _ => rfl⟩ (Ok.yes ⟨fun h => absurd h (by decide), fun h => absurd h (by omega)⟩ (Ok.no (by omega) (Ok.yes (by simp) ?_))))
      unfold classwindow_J3
      exact Ok.no (by decide) (J4b h9' (by omega))
    · rw [if_neg c1]
      by_cases c2 : (n - m) % 18446744073709551616 > 4
      · rw [if_pos c2]
        refine Ok.yes rfl (Ok.yes ⟨fun h => absurd h (by decide), fun h => absurd h (by omega)⟩ (Ok.yes ⟨fun _ => by omega, fun _ => rfl⟩ (Ok.yes (by omega) (Ok.no (by omega) (Ok.yes (by simp) ?_)))))
        unfold classwindow_J3
        exact Ok.no (by decide) (J4b h9' (by omega))
      · rw [if_neg c2]
        have hn4 := Int.tmod_eq_emod_of_nonneg (a := n) (b := 4) (by omega)
        have hk : 0 ≤ n.tmod 4 ∧ n.tmod 4 < 4 := by omega
        have hl := load_one (l := []) (ht _ hk) (wk _ hk).2
        rw [(wk _ hk).1] at hl
        rw [if_pos hl.1, hl.2]
        have J3 : ∀ r : Int × Int × Int × Int × ByteArray × Int, r.1 = 0 ∨ r.1 = 1 → Ok (· = true) (classwindow_J3 k p n r) := by
          intro r hr
          unfold classwindow_J3
          refine Ok.ite (fun _ => J4a (by omega)) (fun h => ?_)
          rw [decide_eq_true (by omega : r.1 = 1)]
          exact J4a (by omega)
        generalize loadF I [] (s : Int) (n.tmod 4) = y at *
        have hS : ∀ S : Int, (S = if n.tmod 4 = 0 then s0_ else if n.tmod 4 = 1 then s1_ else if n.tmod 4 = 2 then s2_ else s3_) → (if (if n.tmod 4 = 0 then s0_ else if n.tmod 4 = 1 then s1_ else if n.tmod 4 = 2 then s2_ else s3_) = n then (1, y.2.1, y.2.2.1, y.2.2.2.1, y.2.2.2.2.1, 0) else (0, 0, 0, 0, ByteArray.empty, 0) : Int × Int × Int × Int × ByteArray × Int) = if S = n then (1, y.2.1, y.2.2.1, y.2.2.2.1, y.2.2.2.2.1, 0) else (0, 0, 0, 0, ByteArray.empty, 0) := fun S h => by rw [← h]
        have fin : ∀ S : Int, Ok (· = true) (if ((if S = n then (1, y.2.1, y.2.2.1, y.2.2.2.1, y.2.2.2.2.1, 0) else (0, 0, 0, 0, ByteArray.empty, 0) : Int × Int × Int × Int × ByteArray × Int).1 = 1 ↔ S = n) then classwindow_J3 k p n (if S = n then (1, y.2.1, y.2.2.1, y.2.2.2.1, y.2.2.2.2.1, 0) else (0, 0, 0, 0, ByteArray.empty, 0)) else some false) := by
          intro S
          by_cases hSn : S = n
          · rw [if_pos hSn]
            exact Ok.yes (by simp [hSn]) (J3 _ (Or.inr rfl))
          · rw [if_neg hSn]
            exact Ok.yes (by simp [hSn]) (J3 _ (Or.inl rfl))
        have hr : ∀ S : Int, (if S = n then (1, y.2.1, y.2.2.1, y.2.2.2.1, y.2.2.2.2.1, 0) else (0, 0, 0, 0, ByteArray.empty, 0) : Int × Int × Int × Int × ByteArray × Int).2.2.2.2.2 = 0 ∧ (if S = n then (1, y.2.1, y.2.2.1, y.2.2.2.1, y.2.2.2.2.1, 0) else (0, 0, 0, 0, ByteArray.empty, 0) : Int × Int × Int × Int × ByteArray × Int).1 ≤ 1 := by
          intro S
          by_cases hSn : S = n
          · rw [if_pos hSn]; exact ⟨rfl, by simp⟩
          · rw [if_neg hSn]; exact ⟨rfl, by simp⟩
        refine Ok.yes (hr _).1 (Ok.yes ?_ (Ok.yes ?_ (Ok.yes (by omega) (Ok.yes (by omega) ?_))))
        · have := (hr (if n.tmod 4 = 0 then s0_ else if n.tmod 4 = 1 then s1_ else if n.tmod 4 = 2 then s2_ else s3_)).2; omega
        · have := (hr (if n.tmod 4 = 0 then s0_ else if n.tmod 4 = 1 then s1_ else if n.tmod 4 = 2 then s2_ else s3_)).2; omega
        refine Ok.ite (fun d0 => ?_) (fun d0 => ?_)
        · rw [hS s0_ (by rw [if_pos d0])]; exact fin s0_
        refine Ok.ite (fun d1 => ?_) (fun d1 => ?_)
        · rw [hS s1_ (by rw [if_neg d0, if_pos d1])]; exact fin s1_
        refine Ok.ite (fun d2 => ?_) (fun d2 => ?_)
        · rw [hS s2_ (by rw [if_neg d0, if_neg d1, if_pos d2])]; exact fin s2_
        refine Ok.ite (fun d3 => ?_) (fun d3 => by omega)
        · rw [hS s3_ (by rw [if_neg d0, if_neg d1, if_neg d2])]; exact fin s3_
  · unfold classwindow_J1
    simp only [eI, hmx, hFF, hI]
    rw [hs, cof_eq hv, rof_closed (ht 0 (by omega)) w0 hcl (by omega)]
    refine Ok.name fun r hr => ?_
    subst hr
    exact Ok.yes (by omega) (Ok.yes rfl works11_done)
end Go.Proofs.YthimamnblklkbaaDoor
