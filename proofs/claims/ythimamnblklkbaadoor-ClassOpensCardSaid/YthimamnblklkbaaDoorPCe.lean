/- Classes of an open session. -/
import Derived.Test.YthimamnblklkbaaDoorGN
namespace Go.Proofs.YthimamnblklkbaaDoor
open Go Go.RowKit
set_option linter.unusedVariables false
set_option linter.unusedSimpArgs false

variable {img : List Int} {l : List (Int × Int)}
theorem thereF_in {i k : Int} (hi : 0 ≤ i ∧ i < 4) (hk : 0 ≤ k ∧ k < 4) (hl : 264 ≤ (img.length : Int)) : thereF img i k = 0 := by
  unfold thereF
  have := sess_range i
  rw [if_neg (by omega), if_neg (by omega), if_neg (by omega), if_neg (by omega), if_neg (by omega)]
theorem load_one {i k : Int} (h0 : thereF img i k = 0) (hw : vget img l (slotAt i k + 1) = 0) : (loadF img l i k).2.2.2.2.2 = 0 ∧ (loadF img l i k).1 = vget img l (slotAt i k) := by
  unfold loadF
  rw [if_pos h0, hw]
  by_cases h : vget img l (slotAt i k) = 0
  · rw [if_pos h, h]; exact ⟨rfl, rfl⟩
  · rw [if_neg h, if_neg (by decide), if_neg (by decide)]; exact ⟨rfl, rfl⟩
theorem getF_in {i : Int} {o : Bool} (h0 : thereF img i 0 = 0) (h1 : vget img l (sessAt i) = if o = true then 1 else 0) : getF img l i = (o, vget img l (sessAt i + 1), vget img l (sessAt i + 2), 0) := by
  unfold getF
  rw [if_pos h0, h1]
  cases o <;> rfl
/-- the class of a number in an open session. -/
theorem rof_in (hv : VR img l) {i g q : Int} (h0 : thereF img i 0 = 0) (h1 : vget img l (sessAt i) = 1) (h2 : vget img l (sessAt i + 1) = g) (hq : 1 ≤ q ∧ q ≤ 1099511627776) :
    rof_M img l i g q = some (if q ≤ vget img l (sessAt i + 2) then (2, 0, 0, 0, ByteArray.empty, 0) else if (q - vget img l (sessAt i + 2)) % 18446744073709551616 > 4 then (3, 0, 0, 0, ByteArray.empty, 0) else
      if (loadF img l i (q.tmod 4)).2.2.2.2.2 = 0 then (if (loadF img l i (q.tmod 4)).1 = q then (1, (loadF img l i (q.tmod 4)).2.1, (loadF img l i (q.tmod 4)).2.2.1, (loadF img l i (q.tmod 4)).2.2.2.1, (loadF img l i (q.tmod 4)).2.2.2.2.1, 0) else (0, 0, 0, 0, ByteArray.empty, 0)) else (0, 0, 0, 0, ByteArray.empty, (loadF img l i (q.tmod 4)).2.2.2.2.2)) := by
  have hg := getF_in (o := true) h0 (by rw [h1]; rfl)
  have h4 := Int.tmod_eq_emod_of_nonneg (a := q) (b := 4) (by omega)
  unfold rof_M
  rw [if_neg (by omega), decide_eq_false (by omega)]
  unfold rof_J1
  rw [if_neg (by decide), ropened_eq]
  unfold openedF
  rw [hg]
  simp only [Option.bind, if_true, h2]
  by_cases h5 : q ≤ vget img l (sessAt i + 2)
  · rw [if_pos h5, if_pos h5]
  · rw [if_neg h5, if_neg h5]
    by_cases h6 : (q - vget img l (sessAt i + 2)) % 18446744073709551616 > 4
    · rw [if_pos h6, if_pos h6]
    · rw [if_neg h6, if_neg h6]
      refine need_of (by omega) ?_
      rw [rload_eq hv]
      simp only [Option.bind]
      by_cases h7 : (loadF img l i (q.tmod 4)).2.2.2.2.2 = 0
      · rw [if_pos h7, if_pos h7]
        by_cases h8 : (loadF img l i (q.tmod 4)).1 = q
        · rw [if_pos h8, if_pos h8]
        · rw [if_neg h8, if_neg h8]
      · rw [if_neg h7, if_neg h7]
/-- of another generation: closed. -/
theorem rof_closed {i g q : Int} (h0 : thereF img i 0 = 0) (h1 : vget img l (sessAt i) = 1) (h2 : ¬ vget img l (sessAt i + 1) = g) (hq : 1 ≤ q ∧ q ≤ 1099511627776) :
    rof_M img l i g q = some (0, 0, 0, 0, ByteArray.empty, 22) := by
  have hg := getF_in (o := true) h0 (by rw [h1]; rfl)
  unfold rof_M
  rw [if_neg (by omega), decide_eq_false (by omega)]
  unfold rof_J1
  rw [if_neg (by decide), ropened_eq]
  unfold openedF
  rw [hg]
  simp only [Option.bind, if_true, if_neg h2]
  rfl
theorem getD_set (l : List Int) (i j : Nat) (a : Int) : (l.set i a).getD j 0 = if i = j ∧ j < l.length then a else l.getD j 0 := by
  simp only [List.getD_eq_getElem?_getD, List.getElem?_set]
  by_cases h : i = j
  · subst h
    by_cases h2 : i < l.length
    · simp [h2]
    · simp [h2]
  · simp [h]
end Go.Proofs.YthimamnblklkbaaDoor
