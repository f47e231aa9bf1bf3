/- InodePlays' plain law. -/
import Derived.Test.YthimamnblklkbaaAPl
import Derived.Test.YthimamnblklkbaaPim
namespace Go.Proofs.Ythimamnblklkbaa
open Go Go.RowKit
set_option linter.unusedVariables false

theorem vwrite_len (img : List Int) (l : List (Int × Int)) (a x : Int) : (vwrite img l a x).2.length ≤ l.length + 1 := by
  unfold vwrite
  split
  · simp
  · split
    · simp
    · unfold vput
      split
      · cases hl : vlook l a with
        | some y => simp only; rw [vset_length_some (by rw [hl]; rfl)]; omega
        | none =>
          simp only
          split
          · simp
          · rw [vset_none hl]; simp
      · simp
theorem vwrites_len (img : List Int) (at_ : Int) : ∀ (xs : List Int) (i : Int) (l : List (Int × Int)), (vwrites img at_ l i xs).2.length ≤ l.length + xs.length
  | [], _, l => by simp [vwrites]
  | x :: xs, i, l => by
    have h := vwrite_len img l (at_ + i) x
    rw [vwrites, List.length_cons]
    split
    · have := vwrites_len img at_ xs (i + 1) (vwrite img l (at_ + i) x).2
      omega
    · omega
theorem iput_len (img : List Int) (l : List (Int × Int)) (gw gi gb n : Int) (x : Nd) : (iputM img l gw gi gb n x).2.length ≤ l.length + 10 := by
  unfold iputM
  split
  · split
    · exact vwrites_len img _ x.list 0 l
    · simp
  · simp
theorem iwipe_len (img : List Int) (l : List (Int × Int)) (gw gi gb n : Int) : (iwipeM img l gw gi gb n).2.length ≤ l.length + 10 := by
  unfold iwipeM
  split
  · exact vwrites_len img _ _ 0 l
  · simp

theorem inodeplays_law {gw gi gb cut_ : Int} {ts : List TTn} {ss : List TSt12} (hc : 0 ≤ cut_ ∧ cut_ ≤ 65535) (ht : ∀ t ∈ ts, good_Tn t) : inodeplays_M gw gi gb ts cut_ ss = some true := by
  refine Ok.true ?_
  unfold inodeplays_M
  refine Ok.ite (fun _ => Ok.some rfl) (fun hts => Ok.ite (fun _ => Ok.some rfl) (fun hss => Ok.bind (image_ok hc (fun t h => (ht t h).1) (by omega)) fun img himg => Ok.need (by omega) (Ok.need (by omega) ?_)))
  refine Ok.iter (fun s => s.1 = s.2.1 ∧ 0 ≤ s.2.2 ∧ s.2.2 ≤ (ss.length : Int) ∧ (s.1.length : Int) ≤ 10 * s.2.2) (fun s => ((ss.length : Int) - s.2.2).toNat) ?_ _ _ ⟨rfl, by simp, by simp, by simp⟩ (fuel_lt (by simp only; omega))
  rintro k ⟨l, l', p⟩ ⟨h1, h2, h3, h4⟩ ih
  simp only at h1 h2 h3 h4 ih
  subst h1
  have j4 : ∀ l b, (l.length : Int) ≤ 10 * p + 10 → p < ss.length → b = true → Ok (· = true) (inodeplays_J4 k p l l b) := by
    intro l b hl hp hb
    subst hb
    unfold inodeplays_J4
    exact Ok.yes rfl (Ok.need (by omega) (ih _ ⟨rfl, by simp only; omega, by simp only; omega, by simp only; omega⟩ (by simp only; omega)))
  have j3 : ∀ l, (l.length : Int) ≤ 10 * p → p < ss.length → Ok (· = true) (inodeplays_J3 gw gi gb ss img k p l l) := by
    intro l hl hp
    unfold inodeplays_J3
    refine Ok.ite (fun _ => Ok.name fun a ha => Ok.name fun b hb => ?_) (fun _ => Ok.ite (fun _ => ?_) (fun _ => ?_))
    · obtain rfl : a = b := ha.trans hb.symm
      exact Ok.yes Iff.rfl (Ok.yes rfl (j4 _ _ (by omega) hp (by simp)))
    · refine Ok.yes Iff.rfl (Ok.name fun a ha => Ok.name fun b hb => ?_)
      obtain rfl : a = b := ha.trans hb.symm
      have := iput_len img l gw gi gb (ss.getD p.toNat dSt12).c1 ⟨(ss.getD p.toNat dSt12).c2, (ss.getD p.toNat dSt12).c3, (ss.getD p.toNat dSt12).c4, (ss.getD p.toNat dSt12).c5, (ss.getD p.toNat dSt12).c6, (ss.getD p.toNat dSt12).c7, (ss.getD p.toNat dSt12).c8, (ss.getD p.toNat dSt12).c9, (ss.getD p.toNat dSt12).c10, (ss.getD p.toNat dSt12).c11⟩
      rw [← ha] at this
      exact j4 _ _ (by omega) hp (by simp)
    · refine Ok.yes Iff.rfl (Ok.name fun a ha => Ok.name fun b hb => ?_)
      obtain rfl : a = b := ha.trans hb.symm
      have := iwipe_len img l gw gi gb (ss.getD p.toNat dSt12).c1
      rw [← ha] at this
      exact j4 _ _ (by omega) hp (by simp)
  unfold inodeplays_B0
  refine Ok.ite (fun h => Ok.need ⟨h2, h⟩ (Ok.ite (fun _ => j3 _ (by simp; omega) h) (fun _ => j3 _ h4 h))) (fun _ => ?_)
  unfold inodeplays_J1
  exact Ok.need (by simp only; omega) (Ok.yes rfl (Ok.some rfl))
end Go.Proofs.Ythimamnblklkbaa
