/- InodeNames' plain law. -/
import Derived.Test.YthimamnblklkbaaANm
import Derived.Test.YthimamnblklkbaaPv
namespace Go.Proofs.Ythimamnblklkbaa
open Go Go.RowKit
set_option linter.unusedVariables false

theorem may_small {i b : Int} : May 1 (2 + i % 20) (2 + b % 60) := by unfold May; omega

theorem inodenames_law {i_ b_ n_ : Int} {x_ : Nd} (hi : 0 ≤ i_ ∧ i_ ≤ 255) (hb : 0 ≤ b_ ∧ b_ ≤ 255) (hn : 0 ≤ n_ ∧ n_ ≤ 255) : inodenames_M i_ b_ n_ x_ = some true := by
  refine Ok.true ?_
  have hM : May 1 (2 + i_ % 20) (2 + b_ % 60) := may_small
  have hw := words_may hM
  have hl := fmtW_len 1 (2 + i_ % 20) (2 + b_ % 60)
  have hwl := words_le 1 (2 + i_ % 20) (2 + b_ % 60)
  have hfl : wordsOf 1 (2 + i_ % 20) (2 + b_ % 60) ≤ ((fmtW 1 (2 + i_ % 20) (2 + b_ % 60)).length : Int) := by omega
  have et := Int.tmod_eq_emod_of_nonneg (a := n_) (b := 2 + i_ % 20 - 1) hn.1
  have h1 := Int.emod_nonneg n_ (b := 2 + i_ % 20 - 1) (by omega)
  have h2 := Int.emod_lt_of_pos n_ (b := 2 + i_ % 20 - 1) (by omega)
  unfold inodenames_M
  rw [et]
  refine Ok.need hi (Ok.need hb (Ok.need (by omega) (Ok.need (by omega) (Ok.need (by omega) (Ok.need (by omega) (Ok.need (by omega) (Ok.name fun r hr => Ok.name fun p hp => ?_)))))))
  have hrn : 1 ≤ r ∧ r < 2 + i_ % 20 := by omega
  rw [place8_in hM (by omega)] at hp
  refine Ok.no (by omega) (Ok.name fun q hq => ?_)
  by_cases hR : RightP 1 (2 + i_ % 20) (2 + b_ % 60) x_
  · obtain ⟨l', e, E⟩ := iput_ok (img := fmtW 1 (2 + i_ % 20) (2 + b_ % 60)) (l := []) (VOk.nil (by omega)) hR hrn hfl (by simp)
    have hq' : q = (0, l') := hq.trans e
    subst hq'
    have hg := iput_get hM hrn hfl E
    have eg : ∀ z : Int, 280 + 208 * 1 + 16 * r + z = p + z := by omega
    simp only [ndAt, eg] at hg
    subst hg
    refine Ok.yes rfl ?_
    repeat' first
      | refine Ok.need (by omega) ?_
      | refine Ok.yes (by simp [Int.add_assoc]) ?_
      | exact Ok.some rfl
  · have hq' : q = (1, []) := hq.trans (if_neg hR)
    subst hq'
    exact Ok.no (by decide) (Ok.no hR (Ok.some rfl))
end Go.Proofs.Ythimamnblklkbaa
