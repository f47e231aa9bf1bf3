/- Plain laws of words that are written, of inodes that are put, got, wiped. -/
import Derived.Test.YthimamnblklkbaaLv
import Derived.Test.YthimamnblklkbaaLg
namespace Go.Proofs.Ythimamnblklkbaa
open Go Go.RowKit
set_option linter.unusedVariables false

/-- What l' is behind l: f tells what each word is. -/
structure Eff (img : List Int) (l l' : List (Int × Int)) (n : Nat) (f : Int → Int) : Prop where
  ok : VOk img l'
  len : l'.length ≤ l.length + n
  get : ∀ k : Int, 0 ≤ k ∧ k < img.length → vget img l' k = f k
  same : (∀ k : Int, 0 ≤ k ∧ k < img.length → f k = vget img l k) → l' = l

theorem vwrite_ok {img : List Int} {l : List (Int × Int)} {a x : Int} (hok : VOk img l) (h : 0 ≤ a ∧ a < img.length) (hm : l.length < 96) :
    ∃ l', vwrite img l a x = (0, l') ∧ Eff img l l' 1 (fun k => if k = a then x else vget img l k) := by
  unfold vwrite
  rw [if_neg (by omega)]
  by_cases hx : vget img l a = x
  · rw [if_pos hx]
    refine ⟨l, rfl, hok, by omega, fun k _ => ?_, fun _ => rfl⟩
    split
    · rename_i e; subst e; exact hx
    · rfl
  · rw [if_neg hx, vput_in h hm]
    refine ⟨vset l a x, rfl, hok.put h (.inr hm), ?_, fun k hk => ?_, fun hs => ?_⟩
    · have := vput_len img l a x
      rw [vput_in h hm] at this
      exact this
    · rw [vget_vset h]
    · exfalso
      have := hs a h
      simp only [if_pos] at this
      exact hx this.symm

theorem Eff.trans {img : List Int} {l l' l'' : List (Int × Int)} {n m : Nat} {f g : Int → Int} (h1 : Eff img l l' n f) (h2 : Eff img l' l'' m g)
    (hd : ∀ k : Int, 0 ≤ k ∧ k < img.length → g k = vget img l k → f k = vget img l k) : Eff img l l'' (n + m) g := by
  refine ⟨h2.ok, by have := h1.len; have := h2.len; omega, h2.get, fun hs => ?_⟩
  have e1 : l' = l := h1.same fun k hk => hd k hk (hs k hk)
  subst e1
  exact h2.same hs

theorem vwrites_ok {img : List Int} {at_ : Int} : ∀ (xs : List Int) (i : Int) (l : List (Int × Int)), VOk img l → (0 ≤ at_ + i ∧ at_ + i + xs.length ≤ img.length) → l.length + xs.length ≤ 96 →
    ∃ l', vwrites img at_ l i xs = (0, l') ∧ Eff img l l' xs.length (fun k => if at_ + i ≤ k ∧ k < at_ + i + xs.length then xs.getD (k - (at_ + i)).toNat 0 else vget img l k)
  | [], i, l, hok, _, _ => by
    refine ⟨l, rfl, hok, by simp, fun k _ => ?_, fun _ => rfl⟩
    simp only [List.length_nil]
    rw [if_neg (by omega)]
  | x :: xs, i, l, hok, h, hm => by
    simp only [List.length_cons] at h hm
    obtain ⟨l1, e1, E1⟩ := vwrite_ok (a := at_ + i) (x := x) hok (by omega) (by omega)
    have hl1 := E1.len
    obtain ⟨l2, e2, E2⟩ := vwrites_ok (at_ := at_) xs (i + 1) l1 E1.ok (by omega) (by omega)
    have hfun : ∀ k : Int, 0 ≤ k ∧ k < img.length → (if at_ + (i + 1) ≤ k ∧ k < at_ + (i + 1) + xs.length then xs.getD (k - (at_ + (i + 1))).toNat 0 else vget img l1 k) = (if at_ + i ≤ k ∧ k < at_ + i + (x :: xs).length then (x :: xs).getD (k - (at_ + i)).toNat 0 else vget img l k) := by
      intro k hk
      simp only [List.length_cons]
      by_cases hq : at_ + (i + 1) ≤ k ∧ k < at_ + (i + 1) + xs.length
      · rw [if_pos hq, if_pos (by omega)]
        have e : (k - (at_ + i)).toNat = (k - (at_ + (i + 1))).toNat + 1 := by omega
        rw [e]
        simp
      · rw [if_neg hq, E1.get k hk]
        by_cases he : k = at_ + i
        · rw [if_pos he, if_pos (by omega)]
          have e : (k - (at_ + i)).toNat = 0 := by omega
          rw [e]
          rfl
        · rw [if_neg he, if_neg (by omega)]
    refine ⟨l2, ?_, ?_⟩
    · rw [vwrites, e1]
      simp only [if_true]
      exact e2
    · have E := Eff.trans E1 E2 (fun k hk hg => ?_)
      · refine ⟨E.ok, by have := E.len; simp only [List.length_cons]; omega, fun k hk => (E.get k hk).trans (hfun k hk), fun hs => E.same fun k hk => (hfun k hk).trans (hs k hk)⟩
      · split
        · rename_i he
          subst he
          rw [if_neg (by omega), E1.get _ hk] at hg
          simp only [if_true] at hg
          exact hg
        · rfl

/-- an inode that is there. -/
theorem ifind_in {len gw gi gb n : Int} (hM : May gw gi gb) (hn : 1 ≤ n ∧ n < gi) (hl : wordsOf gw gi gb ≤ len) : ifind len gw gi gb n = (280 + 208 * gw + 16 * n, 0) := by
  have hp := place8_in hM (n := n) (by omega)
  have hM_ := may_out hM
  unfold ifind
  rw [hp, if_neg (by omega), if_neg (by omega)]

theorem iput_ok {img : List Int} {l : List (Int × Int)} {gw gi gb n : Int} {x : Nd} (hok : VOk img l) (hR : RightP gw gi gb x) (hn : 1 ≤ n ∧ n < gi) (hl : wordsOf gw gi gb ≤ img.length) (hm : l.length ≤ 86) :
    ∃ l', iputM img l gw gi gb n x = (0, l') ∧ Eff img l l' 10 (fun k => if 280 + 208 * gw + 16 * n ≤ k ∧ k < 280 + 208 * gw + 16 * n + 10 then x.list.getD (k - (280 + 208 * gw + 16 * n)).toNat 0 else vget img l k) := by
  have hM := hR.1
  have hM_ := may_out hM
  have hw := words_may hM
  unfold iputM
  rw [if_pos hR, ifind_in hM hn hl]
  simp only [if_true]
  have e : x.list.length = 10 := rfl
  have h := vwrites_ok (img := img) (at_ := 280 + 208 * gw + 16 * n) x.list 0 l hok (by rw [e]; omega) (by rw [e]; omega)
  simpa [e] using h

theorem iwipe_ok {img : List Int} {l : List (Int × Int)} {gw gi gb n : Int} (hok : VOk img l) (hM : May gw gi gb) (hn : 1 ≤ n ∧ n < gi) (hl : wordsOf gw gi gb ≤ img.length) (hm : l.length ≤ 86) :
    ∃ l', iwipeM img l gw gi gb n = (0, l') ∧ Eff img l l' 10 (fun k => if 280 + 208 * gw + 16 * n ≤ k ∧ k < 280 + 208 * gw + 16 * n + 10 then 0 else vget img l k) := by
  have hM_ := may_out hM
  have hw := words_may hM
  unfold iwipeM
  rw [ifind_in hM hn hl]
  simp only [if_true]
  have e : ([0, 0, 0, 0, 0, 0, 0, 0, 0, 0] : List Int).length = 10 := rfl
  obtain ⟨l', e1, E⟩ := vwrites_ok (img := img) (at_ := 280 + 208 * gw + 16 * n) [0, 0, 0, 0, 0, 0, 0, 0, 0, 0] 0 l hok (by rw [e]; omega) (by rw [e]; omega)
  have hf : ∀ k : Int, (if 280 + 208 * gw + 16 * n + 0 ≤ k ∧ k < 280 + 208 * gw + 16 * n + 0 + (([0, 0, 0, 0, 0, 0, 0, 0, 0, 0] : List Int).length : Int) then ([0, 0, 0, 0, 0, 0, 0, 0, 0, 0] : List Int).getD (k - (280 + 208 * gw + 16 * n + 0)).toNat 0 else vget img l k) = (if 280 + 208 * gw + 16 * n ≤ k ∧ k < 280 + 208 * gw + 16 * n + 10 then 0 else vget img l k) := by
    intro k
    rw [e]
    by_cases hq : 280 + 208 * gw + 16 * n ≤ k ∧ k < 280 + 208 * gw + 16 * n + 10
    · rw [if_pos hq, if_pos (by omega)]
      have hz : ∀ j : Nat, ([0, 0, 0, 0, 0, 0, 0, 0, 0, 0] : List Int).getD j 0 = 0 := by
        intro j
        have e2 : ([0, 0, 0, 0, 0, 0, 0, 0, 0, 0] : List Int) = List.replicate 10 0 := rfl
        rw [e2, List.getD, List.getElem?_replicate]
        split <;> rfl
      exact hz _
    · rw [if_neg hq, if_neg (by omega)]
  exact ⟨l', e1, E.ok, E.len, fun k hk => (E.get k hk).trans (hf k), fun hs => E.same fun k hk => (hf k).trans (hs k hk)⟩

theorem ndAt_of {img : List Int} {l : List (Int × Int)} {a : Int} {x : Nd} (h : ∀ j : Nat, j < 10 → vget img l (a + j) = x.list.getD j 0) : ndAt img l a = x := by
  have h0 := h 0 (by omega); have h1 := h 1 (by omega); have h2 := h 2 (by omega); have h3 := h 3 (by omega); have h4 := h 4 (by omega)
  have h5 := h 5 (by omega); have h6 := h 6 (by omega); have h7 := h 7 (by omega); have h8 := h 8 (by omega); have h9 := h 9 (by omega)
  cases x
  simp only [Nd.list, List.getD_cons_zero, List.getD_cons_succ] at h0 h1 h2 h3 h4 h5 h6 h7 h8 h9
  simp only [ndAt, Nd.mk.injEq]
  exact ⟨h0, h1, h2, h3, h4, h5, h6, h7, h8, h9⟩

theorem iput_get {img : List Int} {l l' : List (Int × Int)} {gw gi gb n : Int} {x : Nd} {m : Nat} (hM : May gw gi gb) (hn : 1 ≤ n ∧ n < gi) (hl : wordsOf gw gi gb ≤ img.length)
    (E : Eff img l l' m (fun k => if 280 + 208 * gw + 16 * n ≤ k ∧ k < 280 + 208 * gw + 16 * n + 10 then x.list.getD (k - (280 + 208 * gw + 16 * n)).toNat 0 else vget img l k)) : ndAt img l' (280 + 208 * gw + 16 * n) = x := by
  have hM_ := may_out hM
  have hw := words_may hM
  refine ndAt_of fun j hj => ?_
  rw [E.get _ (by omega), if_pos (by omega)]
  congr 1
  omega
end Go.Proofs.Ythimamnblklkbaa
