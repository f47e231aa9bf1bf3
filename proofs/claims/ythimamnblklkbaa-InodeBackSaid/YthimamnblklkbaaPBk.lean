/- InodeBack's plain law. -/
import Derived.Test.YthimamnblklkbaaABk
import Derived.Test.YthimamnblklkbaaPv
import Derived.Test.YthimamnblklkbaaPim
namespace Go.Proofs.Ythimamnblklkbaa
open Go Go.RowKit
set_option linter.unusedVariables false

theorem may_small {i b : Int} : May 1 (2 + i % 20) (2 + b % 60) := by unfold May; omega
theorem zero_not_right {gw gi gb : Int} : ¬ RightP gw gi gb ⟨0, 0, 0, 0, 0, 0, 0, 0, 0, 0⟩ := by
  simp only [RightP]
  omega

theorem inodeback_law {i_ b_ n_ : Int} {ts : List TTn} {x_ : Nd} (hi : 0 ≤ i_ ∧ i_ ≤ 255) (hb : 0 ≤ b_ ∧ b_ ≤ 255) (hn : 0 ≤ n_ ∧ n_ ≤ 255) (ht : ∀ t ∈ ts, good_Tn t) : inodeback_M i_ b_ ts n_ x_ = some true := by
  refine Ok.true ?_
  have hM : May 1 (2 + i_ % 20) (2 + b_ % 60) := may_small
  have hw := words_may hM
  have hwl := words_le 1 (2 + i_ % 20) (2 + b_ % 60)
  have et := Int.tmod_eq_emod_of_nonneg (a := n_) (b := 2 + i_ % 20 - 1) hn.1
  have h1 := Int.emod_nonneg n_ (b := 2 + i_ % 20 - 1) (by omega)
  have h2 := Int.emod_lt_of_pos n_ (b := 2 + i_ % 20 - 1) (by omega)
  unfold inodeback_M
  rw [et]
  refine Ok.ite (fun _ => Ok.some rfl) (fun hts => Ok.need hi (Ok.need hb (Ok.bind (image_ok (cut_ := 0) (by omega) (fun t h => (ht t h).1) (by omega)) fun img himg => ?_)))
  have hil := himg.2 rfl
  have hfl : wordsOf 1 (2 + i_ % 20) (2 + b_ % 60) ≤ (img.length : Int) := by omega
  have hz : img.length ≤ 17592186044415 := by omega
  refine Ok.need hz (Ok.need (by omega) (Ok.need (by omega) (Ok.need (by omega) (Ok.need (by omega) (Ok.name fun r hr => ?_)))))
  have hrn : 1 ≤ r ∧ r < 2 + i_ % 20 := by omega
  have hp := place8_in (n := r) hM (by omega)
  have j3 : ∀ l, VOk img l → l.length ≤ 86 → Ok (· = true) (inodeback_J3 i_ b_ img r l) := by
    intro l hok hlen
    obtain ⟨l', e, E⟩ := iwipe_ok hok hM hrn hfl hlen
    unfold inodeback_J3
    refine Ok.name fun q hq => ?_
    have hq' : q = (0, l') := hq.trans e
    subst hq'
    refine Ok.yes rfl (Ok.name fun u hu => ?_)
    have hnd : ndAt img l' (280 + 208 * 1 + 16 * r) = ⟨0, 0, 0, 0, 0, 0, 0, 0, 0, 0⟩ := by
      refine ndAt_of fun j hj => ?_
      rw [E.get _ (by omega), if_pos (by omega)]
      have : j = 0 ∨ j = 1 ∨ j = 2 ∨ j = 3 ∨ j = 4 ∨ j = 5 ∨ j = 6 ∨ j = 7 ∨ j = 8 ∨ j = 9 := by omega
      rcases this with rfl | rfl | rfl | rfl | rfl | rfl | rfl | rfl | rfl | rfl <;> rfl
    have hu' : u = (Nd.zero, 4) := by
      rw [hu]
      simp only [igetM, ifind_in hM hrn hfl, if_true]
      rw [hnd, if_neg zero_not_right]
    subst hu'
    exact Ok.yes rfl (Ok.no zero_not_right (Ok.some rfl))
  have j2 : ∀ l, VOk img l → l.length ≤ 10 → (∀ k : Int, 0 ≤ k ∧ k < img.length → ¬ (280 + 208 * 1 + 16 * r ≤ k ∧ k < 280 + 208 * 1 + 16 * r + 10) → vget img l k = vget img [] k) → Ok (· = true) (inodeback_J2 i_ b_ img r l) := by
    intro l hok hlen hel
    have hvl := vflat_length img l
    unfold inodeback_J2
    rw [hp, hvl]
    refine Ok.name fun q hq => Ok.no (by omega) (Ok.yes rfl ?_)
    refine Ok.iter (fun s => 0 ≤ s ∧ s ≤ (img.length : Int)) (fun s => ((img.length : Int) - s).toNat) ?_ _ _ ⟨by omega, by omega⟩ (fuel_lt (by omega))
    intro k s hs ih
    unfold inodeback_B0
    rw [hvl]
    have hcell : ∀ h : s < (img.length : Int), ¬ (280 + 208 * 1 + 16 * r ≤ s ∧ s < 280 + 208 * 1 + 16 * r + 10) → (vflat img l).getD s.toNat 0 = img.getD s.toNat 0 := by
      intro h h'
      have e : ((s.toNat : Nat) : Int) = s := by omega
      rw [vflat_get hok (by omega), e, hel s ⟨hs.1, h⟩ h']
      have e2 := vget_nil (img := img) (k := s.toNat) (by omega)
      rw [e] at e2
      exact e2
    refine Ok.ite (fun h => ?_) (fun _ => j3 l hok (by omega))
    refine Ok.ite (fun h3 => ?_) (fun h3 => ?_)
    · exact Ok.need (by omega) (Ok.need (by omega) (Ok.yes (hcell h (by omega)) (Ok.need (by omega) (ih _ (by omega) (by omega)))))
    · refine Ok.need (by omega) (Ok.ite (fun h4 => ?_) (fun h4 => ?_))
      · exact Ok.need (by omega) (Ok.need (by omega) (Ok.yes (hcell h (by omega)) (Ok.need (by omega) (ih _ (by omega) (by omega)))))
      · exact Ok.need (by omega) (ih _ (by omega) (by omega))
  refine Ok.name fun q hq => ?_
  by_cases hR : RightP 1 (2 + i_ % 20) (2 + b_ % 60) x_
  · obtain ⟨l', e, E⟩ := iput_ok (img := img) (l := []) (VOk.nil hz) hR hrn hfl (by simp)
    have hq' : q = (0, l') := hq.trans e
    subst hq'
    have hg := iput_get hM hrn hfl E
    have hl' := E.len
    simp only [List.length_nil, Nat.zero_add] at hl'
    refine Ok.yes ⟨fun _ => hR, fun _ => rfl⟩ (Ok.yes rfl ?_)
    unfold inodeback_J1
    refine Ok.yes rfl (Ok.name fun u hu => ?_)
    have hu' : u = (x_, 0) := by
      rw [hu]
      simp only [igetM, ifind_in hM hrn hfl, if_true]
      rw [hg, if_pos hR]
    subst hu'
    refine Ok.yes rfl (Ok.yes (by simp) (Ok.no (by simp only; omega) (Ok.name fun t ht' => ?_)))
    obtain ⟨l2, e2, E2⟩ := iput_ok (img := img) (l := l') E.ok hR hrn hfl (by omega)
    have e3 : l2 = l' := E2.same fun k hk => by
      split
      · rw [E.get k hk, if_pos (by assumption)]
      · rfl
    subst e3
    have ht2 : t = (0, l2) := ht'.trans e2
    subst ht2
    refine Ok.yes rfl (Ok.yes rfl (j2 _ E.ok (by omega) fun k hk hk' => ?_))
    rw [E.get k hk, if_neg hk']
  · have hq' : q = (1, []) := hq.trans (if_neg hR)
    subst hq'
    refine Ok.yes ⟨fun h => absurd h (by decide), fun h => absurd h hR⟩ (Ok.no (by decide) (Ok.yes rfl (Ok.no (by simp) ?_)))
    unfold inodeback_J1
    exact Ok.no (by decide) (j2 _ (VOk.nil hz) (by simp) fun k _ _ => rfl)
end Go.Proofs.Ythimamnblklkbaa
