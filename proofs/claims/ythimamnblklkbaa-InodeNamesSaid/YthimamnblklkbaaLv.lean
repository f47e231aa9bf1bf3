/- Plain laws of views. -/
import Derived.Test.YthimamnblklkbaaLw
namespace Go.Proofs.Ythimamnblklkbaa
open Go Go.RowKit

theorem vlook_vset {l : List (Int × Int)} {k v k' : Int} : vlook (vset l k v) k' = if k' = k then some v else vlook l k' := by
  cases hl : vlook l k with
  | none =>
    rw [vset_none hl]
    unfold vlook
    rw [List.find?_append]
    by_cases h : k' = k
    · subst h
      have h0 : l.find? (fun p => p.1 == k') = none := by
        unfold vlook at hl
        simpa using hl
      simp [h0]
    · have : ((k == k') : Bool) = false := by simpa using fun e => h e.symm
      simp [this, h]
  | some x =>
    have e : vset l k v = l.map fun p => if p.1 = k then (k, v) else p := by unfold vset; rw [hl]
    rw [e]
    clear e
    unfold vlook at hl ⊢
    induction l with
    | nil => simp at hl
    | cons p l ih =>
      by_cases hp : p.1 = k
      · by_cases h : k' = k
        · subst h; simp [hp]
        · have h1 : ((k == k') : Bool) = false := by simpa using fun e => h e.symm
          simp only [List.map_cons, hp, if_true, List.find?_cons, h1, h, if_false]
          have : ∀ m : List (Int × Int), (m.map fun p => if p.1 = k then (k, v) else p).find? (fun p => p.1 == k') = m.find? (fun p => p.1 == k') := by
            intro m
            induction m with
            | nil => rfl
            | cons q m ihm =>
              by_cases hq : q.1 = k
              · simp only [List.map_cons, hq, if_true, List.find?_cons, h1, ihm]
              · simp only [List.map_cons, hq, if_false, List.find?_cons, ihm]
          rw [this]
          try rfl
      · have hp' : ((p.1 == k) : Bool) = false := by simpa using hp
        simp only [List.find?_cons, hp'] at hl
        simp only [List.map_cons, hp, if_false, List.find?_cons]
        cases hq : (p.1 == k') with
        | true =>
          have : ¬ k' = k := by
            intro e; subst e; simp at hq; exact hp hq
          simp [this]
        | false =>
          have := ih (by simpa using hl)
          simpa using this

theorem vflat_get0 : ∀ {l : List (Int × Int)} {img : List Int}, Keys l → inside img.length l → ∀ {k : Nat}, k < img.length → (vflat img l).getD k 0 = (vlook l (k : Int)).getD (img.getD k 0)
  | [], img, _, _, k, hk => by simp [vflat, vlook]
  | p :: l, img, hn, hi, k, hk => by
    have hn' : Keys l := by simp only [Keys, List.map_cons, List.nodup_cons] at hn; exact hn.2
    have hp := hi p (List.mem_cons_self ..)
    have h1 := vflat_get0 (l := l) (img := img.set p.1.toNat p.2) hn' (by rw [List.length_set]; exact fun q hq => hi q (List.mem_cons_of_mem _ hq)) (k := k) (by simpa using hk)
    have e : vflat img (p :: l) = vflat (img.set p.1.toNat p.2) l := rfl
    rw [e, h1]
    by_cases h : p.1 = (k : Int)
    · have hnone : vlook l (k : Int) = none := by
        unfold vlook
        rw [Option.map_eq_none_iff, List.find?_eq_none]
        intro q hq hk'
        simp only [Keys, List.map_cons, List.nodup_cons, List.mem_map, not_exists, not_and] at hn
        exact hn.1 q hq (by rw [h]; simpa using hk')
      rw [hnone]
      have e2 : p.1.toNat = k := by omega
      rw [e2]
      simp [vlook, h, hk]
    · have e2 : ¬ p.1.toNat = k := by omega
      have e3 : ((p.1 == (k : Int)) : Bool) = false := by simpa using h
      have e4 : vlook (p :: l) (k : Int) = vlook l (k : Int) := by simp only [vlook, List.find?_cons, e3]
      rw [e4]
      congr 1
      simp [List.getD, List.getElem?_set_ne e2]

theorem vflat_get {l : List (Int × Int)} {img : List Int} (h : VOk img l) {k : Nat} (hk : k < img.length) : (vflat img l).getD k 0 = vget img l (k : Int) := by
  rw [vflat_get0 h.keys h.inside hk]
  simp only [vget]
  rw [if_pos (by omega)]
  rfl
theorem vget_nil {img : List Int} {k : Nat} (hk : k < img.length) : vget img [] (k : Int) = img.getD k 0 := by
  simp only [vget]
  rw [if_pos (by omega)]
  rfl
theorem vput_len (img : List Int) (l : List (Int × Int)) (a x : Int) : (vput img l a x).2.length ≤ l.length + 1 := by
  unfold vput
  split
  · cases hl : vlook l a with
    | some y => simp only; rw [vset_length_some (by rw [hl]; rfl)]; omega
    | none =>
      simp only
      split
      · simp
      · rw [vset_none hl]; simp
  · simp
theorem vput_in {img : List Int} {l : List (Int × Int)} {a x : Int} (h : 0 ≤ a ∧ a < img.length) (hm : l.length < 96) : vput img l a x = (0, vset l a x) := by
  simp only [vput]
  rw [if_pos h]
  cases vlook l a with
  | some y => rfl
  | none => exact if_neg (by omega)
theorem vput_out {img : List Int} {l : List (Int × Int)} {a x : Int} (h : ¬ (0 ≤ a ∧ a < img.length)) : vput img l a x = (8, l) := by
  simp only [vput]
  rw [if_neg h]
theorem vget_vset {img : List Int} {l : List (Int × Int)} {a x k : Int} (h : 0 ≤ a ∧ a < img.length) : vget img (vset l a x) k = if k = a then x else vget img l k := by
  simp only [vget, vlook_vset]
  by_cases hk : k = a
  · subst hk; simp [h]
  · simp [hk]
end Go.Proofs.Ythimamnblklkbaa
