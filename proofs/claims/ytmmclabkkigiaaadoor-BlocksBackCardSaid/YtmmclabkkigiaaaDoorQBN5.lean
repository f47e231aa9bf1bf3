/- Texts, one behind the other: PBa, PBb, A3s, PBc, F6i, F3b, A3w, P3w, PBd, K13, K7, Lo, Ro13, ClA, ClB, ClC, ClD, ClE. -/
import Derived.Test.YtmmclabkkigiaaaDoorRows
import Derived.Test.YtmmclabkkigiaaaDoorCards
import Derived.OpenShut
import Derived.Test.YtmmclabkkigiaaaDoorChecked
import Derived.Test.YtmmclabkkigiaaaDoorQBN4
set_option linter.unusedVariables false
set_option linter.unusedSimpArgs false
namespace Go.Proofs.YtmmclabkkigiaaaDoor
open Go Go.RowKit
set_option linter.unusedVariables false
set_option linter.unusedSimpArgs false

structure Dk (gi gb : Int) (img : List Int) (l : List (Int × Int)) : Prop where
  may : May 1 gi gb
  len : (img.length : Int) = 488 + 16 * gi + 8 * gb
  vr : VR img l
  ok : VOk img l
section
variable {gi gb : Int} {img : List Int} {l : List (Int × Int)}
theorem Dk.g (h : Dk gi gb img l) : (2 ≤ gi ∧ gi ≤ 64) ∧ (2 ≤ gb ∧ gb ≤ 512) := (may_out h.may).2
theorem Dk.words (h : Dk gi gb img l) : wordsOf 1 gi gb = (img.length : Int) := by
  have := words_may h.may
  have := h.len
  omega
theorem Dk.write (h : Dk gi gb img l) {a x : Int} (ha : 0 ≤ a ∧ a < (img.length : Int)) (hx : U64 x) (hl : l.length < 96) :
    ∃ m, vwrite img l a x = (0, m) ∧ Dk gi gb img m ∧ m.length ≤ l.length + 1 ∧ ∀ z, vget img m z = if z = a then x else vget img l z := by
  unfold vwrite
  rw [if_neg (by omega)]
  by_cases e : vget img l a = x
  · rw [if_pos e]
    refine ⟨l, rfl, h, by omega, fun z => ?_⟩
    by_cases hz : z = a
    · rw [if_pos hz, hz, e]
    · rw [if_neg hz]
  · rw [if_neg e, vput_in ha hl]
    have hlen := vput_len img l a x
    rw [vput_in ha hl] at hlen
    exact ⟨_, rfl, ⟨h.may, h.len, h.vr.put ha hx, h.ok.put ha (.inr hl)⟩, hlen, fun z => vget_vset ha⟩
theorem mbits_congr {img' : List Int} {l' : List (Int × Int)} {at_ : Int} {j : Nat} (h : vget img l (at_ + ((j / 64 : Nat) : Int)) = vget img' l' (at_ + ((j / 64 : Nat) : Int))) : mbits img l at_ j = mbits img' l' at_ j := by
  unfold mbits
  rw [h]
theorem Dk.take (h : Dk gi gb img l) {i : Nat} (hi : i < gb.toNat) (h1 : 1 ≤ i) (hf : mbits img l 480 i = false) (hlow : ∀ j, j < i → mbits img l 480 j = true) {at_ : Int} (ha : 488 ≤ at_ ∧ at_ < (img.length : Int))
    (hat : ¬ (488 + 16 * gi + 8 * (i : Int) ≤ at_ ∧ at_ < 488 + 16 * gi + 8 * (i : Int) + 8)) (hl : l.length + 10 ≤ 96) :
    ∃ m, btake_M img l 1 gi gb at_ = some ((i : Int), 0, m) ∧ Dk gi gb img m ∧ m.length ≤ l.length + 10 ∧
      (∀ z, ¬ (480 ≤ z ∧ z < 488) → vget img m z = if z = at_ then (i : Int) else if 488 + 16 * gi + 8 * (i : Int) ≤ z ∧ z < 488 + 16 * gi + 8 * (i : Int) + 8 then 0 else vget img l z) ∧
      (∀ j, j < 512 → mbits img m 480 j = if j = i then true else mbits img l 480 j) := by
  have hg := h.g
  have hlen := h.len
  obtain ⟨l1, a1, a2, a3, a4, _, a6, a7⟩ := mset_in (is_ := true) (at_ := 480) (i_ := (i : Int)) (many := gb) h.vr h.ok (by omega) (by omega) (by omega)
  have hp := place9_in (n := (i : Int)) h.may (by omega)
  obtain ⟨l2, c1, c2, c3, c4, c5⟩ := clear_ok (ns := ownL (488 + 16 * gi + 8 * (i : Int))) a3 a2 (fun n hn => by rw [mem_own] at hn; omega) (by rw [show (ownL (488 + 16 * gi + 8 * (i : Int))).length = 8 from rfl]; omega)
  rw [show (ownL (488 + 16 * gi + 8 * (i : Int))).length = 8 from rfl] at c4
  have hd2 : Dk gi gb img l2 := ⟨h.may, h.len, c3, c2⟩
  obtain ⟨m, d1, d2, d3, d4⟩ := hd2.write (a := at_) (x := (i : Int)) (by omega) (by unfold U64; omega) (by omega)
  have hT : takeBF img l 1 gi gb 480 = ((i : Int), 0, l2) := by
    unfold takeBF
    rw [lst_at hi hf hlow]
    simp only
    rw [if_pos trivial, a1, if_pos rfl, hp]
    simp only
    rw [c1, if_pos rfl]
  refine ⟨m, ?_, d2, by omega, fun z hz => ?_, fun j hj => ?_⟩
  · unfold btake_M
    have hw := h.words
    have hI : ¬ ((i : Int) = 0) := by omega
    refine need_of (by omega) ?_
    rw [if_pos ⟨h.may, by omega⟩, place7 h.may]
    simp only [Int.reduceMul, Int.reduceAdd]
    rw [atakeb_ok h.vr (by omega) (by omega), hT]
    simp only [Option.bind, if_true, if_neg hI]
    unfold btake_J1
    rw [if_pos rfl]
    refine need_of (by omega) ?_
    simp only [Option.bind, d1]
    unfold btake_J2
    rw [if_pos rfl]
  · rw [d4, c5]
    by_cases e : z = at_
    · rw [if_pos e, if_pos e]
    · rw [if_neg e, if_neg e]
      simp only [mem_own]
      split
      · rfl
      · rw [a6, if_neg (by omega)]
  · have e1 := a7 j
    rw [Int.toNat_natCast] at e1
    rw [← e1]
    refine mbits_congr ?_
    rw [d4, if_neg (by omega), c5]
    simp only [mem_own]
    rw [if_neg (by omega)]
theorem Dk.give (h : Dk gi gb img l) {b : Int} (hb : 1 ≤ b ∧ b < gb) (hu : mbits img l 480 b.toNat = true) {at_ : Int} (ha : 488 ≤ at_ ∧ at_ < (img.length : Int)) (hl : l.length + 2 ≤ 96) :
    ∃ m, bgive_M img l 1 gi gb at_ b = some (0, m) ∧ Dk gi gb img m ∧ m.length ≤ l.length + 2 ∧ (∀ z, ¬ (480 ≤ z ∧ z < 488) → vget img m z = if z = at_ then 0 else vget img l z) ∧
      (∀ j, j < 512 → mbits img m 480 j = if j = b.toNat then false else mbits img l 480 j) := by
  have hg := h.g
  have hlen := h.len
  obtain ⟨l1, a1, a2, a3, a4, _, a6, a7⟩ := mset_in (is_ := false) (at_ := 480) (i_ := b) (many := gb) h.vr h.ok (by omega) (by omega) (by omega)
  have hd1 : Dk gi gb img l1 := ⟨h.may, h.len, a2, a3⟩
  obtain ⟨m, d1, d2, d3, d4⟩ := hd1.write (a := at_) (x := 0) (by omega) u64_zero (by omega)
  refine ⟨m, ?_, d2, by omega, fun z hz => ?_, fun j hj => ?_⟩
  · unfold bgive_M
    have hw := h.words
    refine need_of (by omega) ?_
    rw [if_pos ⟨h.may, by omega⟩, place7 h.may]
    simp only [Int.reduceMul, Int.reduceAdd]
    have hG : giveF img l 480 gb b = (0, l1) := by
      unfold giveF
      rw [if_pos hb, if_pos hu, a1]
    have hA : agiveb_M img l gb 480 b = some (0, l1) := by
      unfold agiveb_M
      exact bind_of ((agive_ok h.vr (by omega) (by omega)).trans (congrArg some hG)) rfl
    rw [hA]
    simp only [Option.bind, if_true, d1]
  · rw [d4]
    by_cases e : z = at_
    · rw [if_pos e, if_pos e]
    · rw [if_neg e, if_neg e, a6, if_neg (by omega)]
  · rw [← a7 j]
    refine mbits_congr ?_
    rw [d4, if_neg (by omega)]
end

structure Hd where
  k : Int
  l : Int
  o : Int
  s : Int
  m : Int
def HdOk (gi : Int) (h : Hd) : Prop := h.m < gi ∧ (h.l ≤ 65536 ∧ h.o ≤ 16 ∧ h.s ≤ 768) ∧ ((h.k = 1 ∧ h.m = 0) ∨ (h.k = 2 ∧ h.s = 0))
structure Mp (gi gb : Int) (img : List Int) (l : List (Int × Int)) (n : Int) (O : Nat → Prop) (h : Hd) (f : Nat → Int) (c : Int) : Prop where
  dk : Dk gi gb img l
  nr : 0 < n ∧ n < gi
  hd : HdOk gi h
  w0 : vget img l (488 + 16 * n) = h.k
  w1 : vget img l (489 + 16 * n) = h.l
  w2 : vget img l (490 + 16 * n) = h.o
  w3 : vget img l (491 + 16 * n) = h.s
  w9 : vget img l (497 + 16 * n) = h.m
  wd : ∀ k : Nat, k < 4 → vget img l (492 + 16 * n + (k : Int)) = f k
  w8 : vget img l (496 + 16 * n) = c
  we : ∀ k : Nat, 4 ≤ k → k < 12 → f k = if c = 0 then 0 else vget img l (484 + 16 * gi + 8 * c + (k : Int))
  rf : ∀ k, k < 12 → 0 ≤ f k ∧ f k < gb
  rc : 0 ≤ c ∧ c < gb
  inj : ∀ j k, j < 12 → k < 12 → f j ≠ 0 → f j = f k → j = k
  fc : ∀ k, k < 12 → c ≠ 0 → f k ≠ c
  bits : ∀ b : Nat, b < 512 → (mbits img l 480 b = true ↔ b = 0 ∨ (∃ k, k < 12 ∧ f k = (b : Int)) ∨ c = (b : Int) ∨ O b)
  od : ∀ b : Nat, O b → 0 < b ∧ (b : Int) < gb ∧ (∀ k, k < 12 → f k ≠ (b : Int)) ∧ c ≠ (b : Int)
section
variable {gi gb : Int} {img : List Int} {l : List (Int × Int)} {n : Int} {O : Nat → Prop} {hd : Hd} {f : Nat → Int} {c : Int}
theorem Mp.iget (h : Mp gi gb img l n O hd f c) : igetM img l 1 gi gb n = (⟨hd.k, hd.l, hd.o, hd.s, f 0, f 1, f 2, f 3, c, hd.m⟩, 0) := by
  have hg := h.dk.g
  have hlen := h.dk.len
  have hw := h.dk.words
  have hnr := h.nr
  have hp := place8_in (n := n) h.dk.may (by omega)
  have e : ifind (img.length : Int) 1 gi gb n = (488 + 16 * n, 0) := by
    unfold ifind
    rw [hp, if_neg (by omega), if_neg (by omega)]
    congr 1
  have hnd : ndAt img l (488 + 16 * n) = ⟨hd.k, hd.l, hd.o, hd.s, f 0, f 1, f 2, f 3, c, hd.m⟩ := by
    unfold ndAt
    have d0 := h.wd 0 (by omega)
    have d1 := h.wd 1 (by omega)
    have d2 := h.wd 2 (by omega)
    have d3 := h.wd 3 (by omega)
    rw [← h.w0, ← h.w1, ← h.w2, ← h.w3, ← h.w9, ← h.w8, ← d0, ← d1, ← d2, ← d3]
    congr 2 <;> omega
  have hR : RightP 1 gi gb ⟨hd.k, hd.l, hd.o, hd.s, f 0, f 1, f 2, f 3, c, hd.m⟩ := by
    have := h.hd
    unfold HdOk at this
    exact ⟨h.dk.may, ⟨(h.rf 0 (by omega)).2, (h.rf 1 (by omega)).2, (h.rf 2 (by omega)).2, (h.rf 3 (by omega)).2, h.rc.2, this.1⟩, this.2.1, this.2.2⟩
  unfold igetM
  rw [e]
  simp only [if_true, hnd]
  rw [if_pos hR]
theorem Mp.own (h : Mp gi gb img l n O hd f c) {w : Int} (hw : 0 ≤ w ∧ w ≤ 100) : bown_M 1 gi gb n w = some (488 + 16 * n + w) := by
  have hnr := h.nr
  have hg := h.dk.g
  have hp := place8_in (n := n) h.dk.may (by omega)
  unfold bown_M
  rw [hp]
  simp only [Option.bind]
  exact need_of (by omega) (by congr 1)
theorem Mp.chain (h : Mp gi gb img l n O hd f c) : bchain_M img l 1 gi gb n = some c := by
  have hg := h.dk.g
  have hrc := h.rc
  unfold bchain_M
  rw [h.own (by omega)]
  simp only [Option.bind]
  rw [show 488 + 16 * n + 8 = 496 + 16 * n by omega, h.w8]
  exact need_of (by omega) rfl
def wordAt (gi : Int) (n c : Int) (k : Nat) : Int := if k < 4 then 492 + 16 * n + (k : Int) else 484 + 16 * gi + 8 * c + (k : Int)
theorem Mp.word (h : Mp gi gb img l n O hd f c) {k : Nat} (hk : k < 12) : bword_M img l 1 gi gb n (k : Int) = some (wordAt gi n c k, if k < 4 then true else !decide (c = 0)) := by
  have hg := h.dk.g
  have hrc := h.rc
  have hnr := h.nr
  unfold bword_M wordAt
  by_cases h4 : k < 4
  · rw [if_neg (by omega), if_pos h4, if_pos h4]
    unfold bdirect_M
    refine bind_of (y := (492 + 16 * n + (k : Int), true)) (need_of (by omega) ?_) rfl
    rw [h.own (by omega)]
    simp only [Option.bind]
    congr 2
    omega
  · rw [if_pos (by omega), if_neg h4, if_neg h4]
    unfold bchained_M
    rw [h.chain]
    have hp := place9_in (n := c) h.dk.may (by omega)
    simp only [Option.bind, hp]
    refine bind_of (y := (484 + 16 * gi + 8 * c + (k : Int), !decide (c = 0))) (need_of (by omega) (need_of (by omega) ?_)) rfl
    congr 2
    omega
theorem Mp.wordIn (h : Mp gi gb img l n O hd f c) {k : Nat} (hk : k < 12) : 488 ≤ wordAt gi n c k ∧ wordAt gi n c k < (img.length : Int) := by
  have hg := h.dk.g
  have hrc := h.rc
  have hnr := h.nr
  have hlen := h.dk.len
  unfold wordAt
  split <;> omega
theorem Mp.wordGet (h : Mp gi gb img l n O hd f c) {k : Nat} (hk : k < 12) (hc : k < 4 ∨ c ≠ 0) : vget img l (wordAt gi n c k) = f k := by
  unfold wordAt
  by_cases h4 : k < 4
  · rw [if_pos h4]
    exact h.wd k h4
  · rw [if_neg h4, h.we k (by omega) hk, if_neg (by omega)]
theorem Mp.at (h : Mp gi gb img l n O hd f c) {k : Nat} (hk : k < 12) : bat_M img l 1 gi gb n (k : Int) = some (f k, 0) := by
  have hg := h.dk.g
  have hrf := h.rf k hk
  have J : bat_J1 img l 1 gi gb n (k : Int) = some (f k, 0) := by
    unfold bat_J1
    rw [h.iget]
    simp only [Option.bind]
    unfold bat_J2
    rw [if_pos rfl, h.word hk]
    simp only [Option.bind]
    by_cases hc : k < 4 ∨ c ≠ 0
    · have ht : (if k < 4 then true else !decide (c = 0)) = true := by
        rcases hc with hc | hc
        · rw [if_pos hc]
        · split
          · rfl
          · simp [hc]
      rw [ht, h.wordGet hk hc, if_pos rfl]
      exact need_of (by omega) (by rw [if_neg (by omega)]; exact need_of (by omega) rfl)
    · have hc0 : c = 0 := by omega
      rw [if_neg (show ¬ k < 4 by omega), hc0]
      have := h.we k (by omega) hk
      rw [if_pos hc0] at this
      rw [this]
      rfl
  unfold bat_M
  rw [if_neg (by omega), if_neg (by omega), J]
def needF (f : Nat → Int) (c : Int) (k : Nat) : Int := if f k = 0 then (if k < 4 ∨ c ≠ 0 then 1 else 2) else 0
theorem Mp.need (h : Mp gi gb img l n O hd f c) {k : Nat} (hk : k < 12) : bneed_M img l 1 gi gb n (k : Int) = some (needF f c k) := by
  unfold bneed_M needF
  rw [h.at hk]
  simp only [Option.bind, if_true]
  by_cases h0 : f k = 0
  · rw [if_pos h0, if_pos h0, h.word hk]
    simp only
    by_cases h4 : k < 4
    · rw [if_pos h4, if_pos rfl, if_pos (Or.inl h4)]
    · rw [if_neg h4]
      by_cases hc : c = 0
      · rw [hc, if_neg (by simp), if_neg (by simp; omega)]
      · rw [if_pos (by simp [hc]), if_pos (Or.inr hc)]
  · rw [if_neg h0, if_neg h0]
end
end Go.Proofs.YtmmclabkkigiaaaDoor

namespace Go.Proofs.YtmmclabkkigiaaaDoor
open Go Go.RowKit
set_option linter.unusedVariables false
set_option linter.unusedSimpArgs false

def upd (f : Nat → Int) (k : Nat) (x : Int) : Nat → Int := fun j => if j = k then x else f j
theorem upd_at (f : Nat → Int) (k : Nat) (x : Int) : upd f k x k = x := if_pos rfl
theorem upd_ne {f : Nat → Int} {k j : Nat} {x : Int} (h : j ≠ k) : upd f k x j = f j := if_neg h
section
variable {gi gb : Int} {img : List Int} {l : List (Int × Int)} {n : Int} {O : Nat → Prop} {hd : Hd} {f : Nat → Int} {c : Int}
theorem Mp.hasWord (h : Mp gi gb img l n O hd f c) {k : Nat} (hk : k < 12) (h0 : f k ≠ 0) : k < 4 ∨ c ≠ 0 := by
  rcases Nat.lt_or_ge k 4 with h4 | h4
  · exact .inl h4
  · refine .inr fun hc => h0 ?_
    rw [h.we k h4 hk, if_pos hc]
theorem Mp.used (h : Mp gi gb img l n O hd f c) {k : Nat} (hk : k < 12) (h0 : f k ≠ 0) : mbits img l 480 (f k).toNat = true := by
  have hr := h.rf k hk
  have hg := h.dk.g
  exact (h.bits _ (by omega)).2 (.inr (.inl ⟨k, hk, by omega⟩))
theorem Mp.turn (h : Mp gi gb img l n O hd f c) {m : List (Int × Int)} {k : Nat} (hk : k < 12) (hc : k < 4 ∨ c ≠ 0) {x : Int} (hx : 0 ≤ x ∧ x < gb) (hdk : Dk gi gb img m)
    (hw : ∀ z, ¬ (480 ≤ z ∧ z < 488) → (z < 488 + 16 * gi ∨ (c ≠ 0 ∧ 488 + 16 * gi + 8 * c ≤ z ∧ z < 488 + 16 * gi + 8 * c + 8)) → vget img m z = if z = wordAt gi n c k then x else vget img l z)
    (hinj : ∀ j, j < 12 → j ≠ k → x ≠ 0 → f j ≠ x) (hxc : x ≠ 0 → c ≠ x) (hbits : ∀ b : Nat, b < 512 → (mbits img m 480 b = true ↔ b = 0 ∨ (∃ j, j < 12 ∧ upd f k x j = (b : Int)) ∨ c = (b : Int) ∨ O b)) (hox : ∀ b : Nat, O b → x ≠ (b : Int)) :
    Mp gi gb img m n O hd (upd f k x) c := by
  have hg := h.dk.g
  have hnr := h.nr
  have hrc := h.rc
  have hwa : wordAt gi n c k = if k < 4 then 492 + 16 * n + (k : Int) else 484 + 16 * gi + 8 * c + (k : Int) := rfl
  have hne : ∀ z, (488 + 16 * n ≤ z ∧ z < 492 + 16 * n) ∨ z = 496 + 16 * n ∨ z = 497 + 16 * n → vget img m z = vget img l z := by
    intro z hz
    rw [hw z (by omega) (.inl (by omega)), if_neg]
    rw [hwa]
    by_cases hk4 : k < 4
    · rw [if_pos hk4]; omega
    · rw [if_neg hk4]; omega
  refine ⟨hdk, hnr, h.hd, ?_, ?_, ?_, ?_, ?_, fun j hj => ?_, ?_, fun j hj1 hj2 => ?_, fun j hj => ?_, hrc, fun i j hi hj h1 h2 => ?_, fun j hj hc0 => ?_, hbits, fun b hb => ?_⟩
  · rw [hne _ (by omega)]; exact h.w0
  · rw [hne _ (by omega)]; exact h.w1
  · rw [hne _ (by omega)]; exact h.w2
  · rw [hne _ (by omega)]; exact h.w3
  · rw [hne _ (by omega)]; exact h.w9
  · rw [hw _ (by omega) (.inl (by omega)), hwa]
    by_cases e : j = k
    · subst e
      rw [upd_at, if_pos hj, if_pos rfl]
    · rw [upd_ne e]
      by_cases hk4 : k < 4
      · rw [if_pos hk4, if_neg (by omega)]
        exact h.wd j hj
      · rw [if_neg hk4, if_neg (by omega)]
        exact h.wd j hj
  · rw [hne _ (by omega)]; exact h.w8
  · by_cases hc0 : c = 0
    · rw [if_pos hc0]
      have hk4 : k < 4 := by omega
      rw [upd_ne (by omega), h.we j hj1 hj2, if_pos hc0]
    · rw [if_neg hc0, hw _ (by omega) (.inr ⟨hc0, by omega⟩), hwa]
      by_cases e : j = k
      · subst e
        rw [upd_at, if_neg (show ¬ j < 4 by omega), if_pos rfl]
      · rw [upd_ne e, h.we j hj1 hj2, if_neg hc0]
        by_cases hk4 : k < 4
        · rw [if_pos hk4, if_neg (by omega)]
        · rw [if_neg hk4, if_neg (by omega)]
  · unfold upd
    split
    · exact hx
    · exact h.rf j hj
  · unfold upd at h1 h2
    by_cases e1 : i = k
    · by_cases e2 : j = k
      · omega
      · rw [if_pos e1] at h1 h2
        rw [if_neg e2] at h2
        exact absurd h2.symm (hinj j hj e2 h1)
    · rw [if_neg e1] at h1 h2
      by_cases e2 : j = k
      · rw [if_pos e2] at h2
        rw [h2] at h1
        exact absurd h2 (hinj i hi e1 h1)
      · rw [if_neg e2] at h2
        exact h.inj i j hi hj h1 h2
  · unfold upd
    split
    · intro e
      exact hxc (by omega) e.symm
    · exact h.fc j hj hc0
  · obtain ⟨o1, o2, o3, o4⟩ := h.od b hb
    refine ⟨o1, o2, fun j hj => ?_, o4⟩
    unfold upd
    split
    · exact hox b hb
    · exact o3 j hj
theorem Mp.giveW (h : Mp gi gb img l n O hd f c) {k : Nat} (hk : k < 12) (h0 : f k ≠ 0) (hl : l.length + 2 ≤ 96) :
    ∃ m, bgive_M img l 1 gi gb (wordAt gi n c k) (f k) = some (0, m) ∧ m.length ≤ l.length + 2 ∧ Mp gi gb img m n O hd (upd f k 0) c ∧ ∀ z, ¬ (480 ≤ z ∧ z < 488) → z ≠ wordAt gi n c k → vget img m z = vget img l z := by
  have hg := h.dk.g
  have hr := h.rf k hk
  obtain ⟨m, g1, g2, g3, g4, g5⟩ := h.dk.give (b := f k) (by omega) (h.used hk h0) (h.wordIn hk) hl
  refine ⟨m, g1, g3, h.turn hk (h.hasWord hk h0) (x := 0) (by omega) g2 (fun z hz _ => g4 z hz) (by omega) (by omega) (fun b hb => ?_) (fun b hb => by have := h.od b hb; omega), fun z hz hz2 => by rw [g4 z hz, if_neg hz2]⟩
  rw [g5 b hb]
  by_cases e : b = (f k).toNat
  · rw [if_pos e]
    refine ⟨fun q => absurd q (by decide), fun q => ?_⟩
    exfalso
    rcases q with q | ⟨j, hj, q⟩ | q | q
    · omega
    · unfold upd at q
      by_cases ej : j = k
      · rw [if_pos ej] at q; omega
      · rw [if_neg ej] at q
        exact ej (h.inj j k hj hk (by omega) (by omega))
    · exact h.fc k hk (by omega) (by omega)
    · exact (h.od b q).2.2.1 k hk (by omega)
  · rw [if_neg e, h.bits b hb]
    constructor
    · rintro (q | ⟨j, hj, q⟩ | q | q)
      · exact .inl q
      · by_cases ej : j = k
        · subst ej; omega
        · exact .inr (.inl ⟨j, hj, by rw [upd_ne ej]; exact q⟩)
      · exact .inr (.inr (.inl q))
      · exact .inr (.inr (.inr q))
    · rintro (q | ⟨j, hj, q⟩ | q | q)
      · exact .inl q
      · by_cases ej : j = k
        · subst ej; rw [upd_at] at q; exact .inl (by omega)
        · rw [upd_ne ej] at q; exact .inr (.inl ⟨j, hj, q⟩)
      · exact .inr (.inr (.inl q))
      · exact .inr (.inr (.inr q))
theorem Mp.giveC (h : Mp gi gb img l n O hd f c) (hc : c ≠ 0) (hz : ∀ k, 4 ≤ k → k < 12 → f k = 0) (hl : l.length + 2 ≤ 96) :
    ∃ m, bgive_M img l 1 gi gb (496 + 16 * n) c = some (0, m) ∧ m.length ≤ l.length + 2 ∧ Mp gi gb img m n O hd f 0 ∧ ∀ z, ¬ (480 ≤ z ∧ z < 488) → z ≠ 496 + 16 * n → vget img m z = vget img l z := by
  have hg := h.dk.g
  have hrc := h.rc
  have hnr := h.nr
  have hlen := h.dk.len
  obtain ⟨m, g1, g2, g3, g4, g5⟩ := h.dk.give (b := c) (by omega) ((h.bits _ (by omega)).2 (.inr (.inr (.inl (by omega))))) (at_ := 496 + 16 * n) (by omega) hl
  have hne : ∀ z, ¬ (480 ≤ z ∧ z < 488) → z ≠ 496 + 16 * n → vget img m z = vget img l z := fun z h1 h2 => by rw [g4 z h1, if_neg h2]
  refine ⟨m, g1, g3, ⟨g2, hnr, h.hd, ?_, ?_, ?_, ?_, ?_, fun j hj => ?_, ?_, fun j hj1 hj2 => ?_, h.rf, by omega, h.inj, fun j hj q => absurd rfl q, fun b hb => ?_, fun b hb => ?_⟩, hne⟩
  · rw [hne _ (by omega) (by omega)]; exact h.w0
  · rw [hne _ (by omega) (by omega)]; exact h.w1
  · rw [hne _ (by omega) (by omega)]; exact h.w2
  · rw [hne _ (by omega) (by omega)]; exact h.w3
  · rw [hne _ (by omega) (by omega)]; exact h.w9
  · rw [hne _ (by omega) (by omega)]; exact h.wd j hj
  · rw [g4 _ (by omega), if_pos rfl]
  · rw [if_pos rfl]; exact hz j hj1 hj2
  · rw [g5 b hb]
    by_cases e : b = c.toNat
    · rw [if_pos e]
      refine ⟨fun q => absurd q (by decide), fun q => ?_⟩
      exfalso
      rcases q with q | ⟨j, hj, q⟩ | q | q
      · omega
      · exact h.fc j hj hc (by omega)
      · omega
      · exact (h.od b q).2.2.2 (by omega)
    · rw [if_neg e, h.bits b hb]
      constructor
      · rintro (q | q | q | q)
        · exact .inl q
        · exact .inr (.inl q)
        · omega
        · exact .inr (.inr (.inr q))
      · rintro (q | q | q | q)
        · exact .inl q
        · exact .inr (.inl q)
        · exact .inl (by omega)
        · exact .inr (.inr (.inr q))
  · obtain ⟨o1, o2, o3, o4⟩ := h.od b hb
    exact ⟨o1, o2, o3, by omega⟩
theorem Mp.takeW (h : Mp gi gb img l n O hd f c) {k : Nat} (hk : k < 12) (hc : k < 4 ∨ c ≠ 0) (h0 : f k = 0) {i : Nat} (hi : i < gb.toNat) (hf : mbits img l 480 i = false) (hlow : ∀ j, j < i → mbits img l 480 j = true) (hl : l.length + 10 ≤ 96) :
    ∃ m, btake_M img l 1 gi gb (wordAt gi n c k) = some ((i : Int), 0, m) ∧ m.length ≤ l.length + 10 ∧ 1 ≤ i ∧ Mp gi gb img m n O hd (upd f k (i : Int)) c ∧ (∀ z, ¬ (480 ≤ z ∧ z < 488) → vget img m z = if z = wordAt gi n c k then (i : Int) else if 488 + 16 * gi + 8 * (i : Int) ≤ z ∧ z < 488 + 16 * gi + 8 * (i : Int) + 8 then 0 else vget img l z) ∧
      (∀ j, j < 512 → mbits img m 480 j = if j = i then true else mbits img l 480 j) := by
  have hg := h.dk.g
  have hnr := h.nr
  have hrc := h.rc
  have nb : ¬ (mbits img l 480 i = true) := by rw [hf]; decide
  rw [h.bits i (by omega)] at nb
  have h1 : 1 ≤ i := by
    rcases Nat.eq_zero_or_pos i with e | e
    · exact absurd (.inl e) nb
    · exact e
  have hci : c ≠ (i : Int) := fun e => nb (.inr (.inr (.inl e)))
  have hfi : ∀ j, j < 12 → f j ≠ (i : Int) := fun j hj e => nb (.inr (.inl ⟨j, hj, e⟩))
  have hoi : ¬ O i := fun e => nb (.inr (.inr (.inr e)))
  have hat : ¬ (488 + 16 * gi + 8 * (i : Int) ≤ wordAt gi n c k ∧ wordAt gi n c k < 488 + 16 * gi + 8 * (i : Int) + 8) := by
    unfold wordAt
    split <;> omega
  obtain ⟨m, g1, g2, g3, g4, g5⟩ := h.dk.take hi h1 hf hlow (h.wordIn hk) hat hl
  refine ⟨m, g1, g3, h1, h.turn hk hc (x := (i : Int)) (by omega) g2 (fun z hz hz2 => ?_) (fun j hj _ _ => hfi j hj) (fun _ => hci) (fun b hb => ?_) (fun b hb e => hoi (by rw [show i = b by omega]; exact hb)), g4, g5⟩
  · rw [g4 z hz]
    by_cases e : z = wordAt gi n c k
    · rw [if_pos e, if_pos e]
    · rw [if_neg e, if_neg e, if_neg (by omega)]
  · rw [g5 b hb]
    by_cases e : b = i
    · rw [if_pos e]
      exact ⟨fun _ => .inr (.inl ⟨k, hk, by rw [upd_at]; omega⟩), fun _ => rfl⟩
    · rw [if_neg e, h.bits b hb]
      constructor
      · rintro (q | ⟨j, hj, q⟩ | q | q)
        · exact .inl q
        · by_cases ej : j = k
          · subst ej; exact .inl (by omega)
          · exact .inr (.inl ⟨j, hj, by rw [upd_ne ej]; exact q⟩)
        · exact .inr (.inr (.inl q))
        · exact .inr (.inr (.inr q))
      · rintro (q | ⟨j, hj, q⟩ | q | q)
        · exact .inl q
        · by_cases ej : j = k
          · subst ej; rw [upd_at] at q; omega
          · rw [upd_ne ej] at q; exact .inr (.inl ⟨j, hj, q⟩)
        · exact .inr (.inr (.inl q))
        · exact .inr (.inr (.inr q))
theorem Mp.takeC (h : Mp gi gb img l n O hd f 0) {i : Nat} (hi : i < gb.toNat) (hf : mbits img l 480 i = false) (hlow : ∀ j, j < i → mbits img l 480 j = true) (hl : l.length + 10 ≤ 96) :
    ∃ m, btake_M img l 1 gi gb (496 + 16 * n) = some ((i : Int), 0, m) ∧ m.length ≤ l.length + 10 ∧ 1 ≤ i ∧ Mp gi gb img m n O hd f (i : Int) ∧ (∀ z, ¬ (480 ≤ z ∧ z < 488) → vget img m z = if z = 496 + 16 * n then (i : Int) else if 488 + 16 * gi + 8 * (i : Int) ≤ z ∧ z < 488 + 16 * gi + 8 * (i : Int) + 8 then 0 else vget img l z) ∧
      (∀ j, j < 512 → mbits img m 480 j = if j = i then true else mbits img l 480 j) := by
  have hg := h.dk.g
  have hnr := h.nr
  have hlen := h.dk.len
  have nb : ¬ (mbits img l 480 i = true) := by rw [hf]; decide
  rw [h.bits i (by omega)] at nb
  have h1 : 1 ≤ i := by
    rcases Nat.eq_zero_or_pos i with e | e
    · exact absurd (.inl e) nb
    · exact e
  have hfi : ∀ j, j < 12 → f j ≠ (i : Int) := fun j hj e => nb (.inr (.inl ⟨j, hj, e⟩))
  have hoi : ¬ O i := fun e => nb (.inr (.inr (.inr e)))
  obtain ⟨m, g1, g2, g3, g4, g5⟩ := h.dk.take hi h1 hf hlow (at_ := 496 + 16 * n) (by omega) (by omega) hl
  have hne : ∀ z, ¬ (480 ≤ z ∧ z < 488) → z < 488 + 16 * gi → z ≠ 496 + 16 * n → vget img m z = vget img l z := fun z a1 a2 a3 => by rw [g4 z a1, if_neg a3, if_neg (by omega)]
  refine ⟨m, g1, g3, h1, ⟨g2, hnr, h.hd, ?_, ?_, ?_, ?_, ?_, fun j hj => ?_, ?_, fun j hj1 hj2 => ?_, h.rf, by omega, h.inj, fun j hj _ => hfi j hj, fun b hb => ?_, fun b hb => ?_⟩, g4, g5⟩
  · rw [hne _ (by omega) (by omega) (by omega)]; exact h.w0
  · rw [hne _ (by omega) (by omega) (by omega)]; exact h.w1
  · rw [hne _ (by omega) (by omega) (by omega)]; exact h.w2
  · rw [hne _ (by omega) (by omega) (by omega)]; exact h.w3
  · rw [hne _ (by omega) (by omega) (by omega)]; exact h.w9
  · rw [hne _ (by omega) (by omega) (by omega)]; exact h.wd j hj
  · rw [g4 _ (by omega), if_pos rfl]
  · rw [if_neg (by omega), g4 _ (by omega), if_neg (by omega), if_pos (by omega), h.we j hj1 hj2, if_pos rfl]
  · rw [g5 b hb]
    by_cases e : b = i
    · rw [if_pos e]
      exact ⟨fun _ => .inr (.inr (.inl (by omega))), fun _ => rfl⟩
    · rw [if_neg e, h.bits b hb]
      constructor
      · rintro (q | q | q | q)
        · exact .inl q
        · exact .inr (.inl q)
        · exact .inl (by omega)
        · exact .inr (.inr (.inr q))
      · rintro (q | q | q | q)
        · exact .inl q
        · exact .inr (.inl q)
        · omega
        · exact .inr (.inr (.inr q))
  · obtain ⟨o1, o2, o3, o4⟩ := h.od b hb
    exact ⟨o1, o2, o3, fun e => hoi (by rw [show i = b by omega]; exact hb)⟩

def bareB (f : Nat → Int) : Bool := (List.range 12).all fun k => decide (k < 4) || decide (f k = 0)
theorem bareB_iff {f : Nat → Int} : bareB f = true ↔ ∀ k : Nat, k < 12 → 4 ≤ k → f k = 0 := by
  unfold bareB
  simp only [List.all_eq_true, List.mem_range, Bool.or_eq_true, decide_eq_true_eq]
  exact ⟨fun q k k1 k2 => (q k k1).resolve_left (by omega), fun q k k1 => (Nat.lt_or_ge k 4).imp id (q k k1)⟩
theorem Mp.bare (h : Mp gi gb img l n O hd f c) (hc : c ≠ 0) : bbare_M img l 1 gi gb c = some (bareB f) := by
  have hg := h.dk.g
  have hrc := h.rc
  have hp := place9_in (n := c) h.dk.may (by omega)
  unfold bbare_M
  refine iter_run (fun p => 0 ≤ p ∧ p ≤ 8 ∧ ∀ k : Nat, k < 12 → 4 ≤ k → (k : Int) < 4 + p → f k = 0) (fun p => (8 - p).toNat) ?_ _ _ ⟨by omega, by omega, fun k _ _ _ => by omega⟩ (fuel_lt (by omega))
  rintro kk p ⟨h1, h2, h3⟩ ih
  unfold bbare_B0
  by_cases hp8 : p < 8
  · rw [if_pos hp8, hp]
    refine need_of (by omega) ?_
    have hw := h.we (4 + p.toNat) (by omega) (by omega)
    rw [if_neg hc, show 484 + 16 * gi + 8 * c + ((4 + p.toNat : Nat) : Int) = 488 + 16 * gi + 8 * c + p by omega] at hw
    rw [← hw]
    by_cases h0 : f (4 + p.toNat) = 0
    · rw [if_pos h0]
      refine need_of (by omega) (ih _ ⟨by omega, by omega, fun k k1 k2 k3 => ?_⟩ (by omega))
      by_cases e : k = 4 + p.toNat
      · rw [e]; exact h0
      · exact h3 k k1 k2 (by omega)
    · rw [if_neg h0]
      cases hb : bareB f with
      | false => rfl
      | true => exact absurd (bareB_iff.1 hb (4 + p.toNat) (by omega) (by omega)) h0
  · rw [if_neg hp8, bareB_iff.2 fun k k1 k2 => h3 k k1 k2 (by omega)]
def Full (f : Nat → Int) (c : Int) : Prop := c ≠ 0 → ∃ k, k < 12 ∧ 4 ≤ k ∧ f k ≠ 0
theorem Mp.drop (h : Mp gi gb img l n O hd f c) {k : Nat} (hk : k < 12) (hl : l.length + 4 ≤ 96) :
    ∃ m c', bDrop_M img l 1 gi gb n (k : Int) = some (0, m) ∧ m.length ≤ l.length + 4 ∧ Mp gi gb img m n O hd (upd f k 0) c' ∧ (Full f c → Full (upd f k 0) c') ∧ (c' = c ∨ c' = 0) ∧
      (∀ z, ¬ (480 ≤ z ∧ z < 488) → z ≠ wordAt gi n c k → z ≠ 496 + 16 * n → vget img m z = vget img l z) := by
  unfold bDrop_M
  rw [h.at hk]
  simp only [Option.bind, if_true]
  by_cases h0 : f k = 0
  · rw [if_pos h0]
    have e : upd f k 0 = f := by
      funext j
      unfold upd
      split
      · rename_i e; rw [e, h0]
      · rfl
    rw [e]
    exact ⟨l, c, rfl, by omega, h, id, .inl rfl, fun _ _ _ _ => rfl⟩
  · rw [if_neg h0, h.word hk]
    obtain ⟨m, g1, g2, g3, g4⟩ := h.giveW hk h0 (by omega)
    simp only [g1, if_true, g3.chain]
    by_cases hc : c = 0
    · rw [if_pos hc]
      unfold bDrop_J1
      rw [if_neg (by decide)]
      exact ⟨m, c, rfl, by omega, g3, fun _ q => absurd hc q, .inl rfl, fun z z1 z2 _ => g4 z z1 z2⟩
    · rw [if_neg hc, g3.bare hc]
      simp only
      unfold bDrop_J1
      by_cases hz : ∀ j : Nat, j < 12 → 4 ≤ j → upd f k 0 j = 0
      · rw [if_pos (bareB_iff.2 hz), g3.own (by omega), show 488 + 16 * n + 8 = 496 + 16 * n by omega]
        obtain ⟨m2, e1, e2, e3, e4⟩ := g3.giveC hc (fun j a b => hz j b a) (by omega)
        simp only [Option.bind, e1]
        exact ⟨m2, 0, rfl, by omega, e3, fun _ q => absurd rfl q, .inr rfl, fun z z1 z2 z3 => by rw [e4 z z1 z3, g4 z z1 z2]⟩
      · rw [if_neg fun q => hz (bareB_iff.1 q)]
        refine ⟨m, c, rfl, by omega, g3, fun _ _ => ?_, .inl rfl, fun z z1 z2 _ => g4 z z1 z2⟩
        obtain ⟨j, hj⟩ := Classical.not_forall.1 hz
        obtain ⟨hj1, hj⟩ := Classical.not_imp.1 hj
        obtain ⟨hj2, hj⟩ := Classical.not_imp.1 hj
        exact ⟨j, hj1, hj2, hj⟩
def cutF (f : Nat → Int) (a b : Nat) : Nat → Int := fun j => if a ≤ j ∧ j < b then 0 else f j
theorem Mp.cut (h : Mp gi gb img l n O hd f c) {a : Nat} (ha : a ≤ 12) (hl : l.length + 48 ≤ 96) :
    ∃ m c', bCut_M img l 1 gi gb n (a : Int) = some (0, m) ∧ m.length ≤ l.length + 48 ∧ Mp gi gb img m n O hd (cutF f a 12) c' ∧ (Full f c → Full (cutF f a 12) c') ∧
      (∀ z, z < 480 ∨ (488 ≤ z ∧ z < 488 + 16 * gi ∧ ¬ (492 + 16 * n ≤ z ∧ z ≤ 496 + 16 * n)) ∨ (488 + 16 * gi ≤ z ∧ (c ≠ 0 → ¬ (488 + 16 * gi + 8 * c ≤ z ∧ z < 488 + 16 * gi + 8 * c + 8))) → vget img m z = vget img l z) := by
  have hnr := h.nr
  have hrc := h.rc
  have key : ∀ (t k : Nat) (l' : List (Int × Int)) (c' : Int), k + t = 12 - a → l'.length ≤ l.length + 4 * k → Mp gi gb img l' n O hd (cutF f a (a + k)) c' → (Full f c → Full (cutF f a (a + k)) c') → (c' = c ∨ c' = 0) →
      (∀ z, z < 480 ∨ (488 ≤ z ∧ z < 488 + 16 * gi ∧ ¬ (492 + 16 * n ≤ z ∧ z ≤ 496 + 16 * n)) ∨ (488 + 16 * gi ≤ z ∧ (c ≠ 0 → ¬ (488 + 16 * gi + 8 * c ≤ z ∧ z < 488 + 16 * gi + 8 * c + 8))) → vget img l' z = vget img l z) →
      ∃ m c', rounds (fun k_ c_ s_ => bCut_R21 img 1 gi gb n (a : Int) k_ c_ s_) (fun s_ => bCut_D21 s_) t k l' = some (0, m) ∧ m.length ≤ l.length + 48 ∧ Mp gi gb img m n O hd (cutF f a 12) c' ∧ (Full f c → Full (cutF f a 12) c') ∧
        (∀ z, z < 480 ∨ (488 ≤ z ∧ z < 488 + 16 * gi ∧ ¬ (492 + 16 * n ≤ z ∧ z ≤ 496 + 16 * n)) ∨ (488 + 16 * gi ≤ z ∧ (c ≠ 0 → ¬ (488 + 16 * gi + 8 * c ≤ z ∧ z < 488 + 16 * gi + 8 * c + 8))) → vget img m z = vget img l z) := by
    intro t
    induction t with
    | zero =>
      intro k l' c' h1 h2 h3 h4 h5 h6
      rw [show a + k = 12 by omega] at h3 h4
      exact ⟨l', c', rfl, by omega, h3, h4, h6⟩
    | succ t ih =>
      intro k l' c' h1 h2 h3 h4 h5 h6
      have hg := h.dk.g
      obtain ⟨m, c2, e1, e2, e3, e4, e5, e6⟩ := h3.drop (k := a + k) (by omega) (by omega)
      have eR : rounds (fun k_ c_ s_ => bCut_R21 img 1 gi gb n (a : Int) k_ c_ s_) (fun s_ => bCut_D21 s_) (t + 1) k l' = rounds (fun k_ c_ s_ => bCut_R21 img 1 gi gb n (a : Int) k_ c_ s_) (fun s_ => bCut_D21 s_) t (k + 1) m := by
        show bCut_R21 img 1 gi gb n (a : Int) k _ l' = _
        unfold bCut_R21
        simp only [Option.bind]
        rw [show (a : Int) + (k : Int) = ((a + k : Nat) : Int) by omega, e1]
        simp only [if_true]
      rw [eR]
      have eU : upd (cutF f a (a + k)) (a + k) 0 = cutF f a (a + (k + 1)) := by
        funext j
        unfold upd cutF
        by_cases e : j = a + k
        · rw [if_pos e, if_pos (by omega)]
        · rw [if_neg e]
          by_cases e2 : a ≤ j ∧ j < a + k
          · rw [if_pos e2, if_pos (by omega)]
          · rw [if_neg e2, if_neg (by omega)]
      rw [eU] at e3 e4
      refine ih (k + 1) m c2 (by omega) (by omega) e3 (fun q => e4 (h4 q)) (by omega) fun z hz => ?_
      have hw : wordAt gi n c' (a + k) = if a + k < 4 then 492 + 16 * n + ((a + k : Nat) : Int) else 484 + 16 * gi + 8 * c' + ((a + k : Nat) : Int) := rfl
      by_cases e : cutF f a (a + k) (a + k) = 0
      · -- nothing was there
        have hD : bDrop_M img l' 1 gi gb n ((a + k : Nat) : Int) = some (0, l') := by
          unfold bDrop_M
          rw [h3.at (by omega)]
          simp only [Option.bind, if_true]
          rw [if_pos e]
        rw [hD] at e1
        have : m = l' := by
          have := Option.some.inj e1
          exact (Prod.mk.inj this).2.symm
        rw [this]
        exact h6 z hz
      · have hh := h3.hasWord (k := a + k) (by omega) e
        have hz2 : z ≠ wordAt gi n c' (a + k) := by
          rw [hw]
          split <;> omega
        rw [e6 z (by omega) hz2 (by omega)]
        exact h6 z hz
  have J : ∃ m c', bCut_J1 img l 1 gi gb n (a : Int) = some (0, m) ∧ m.length ≤ l.length + 48 ∧ Mp gi gb img m n O hd (cutF f a 12) c' ∧ (Full f c → Full (cutF f a 12) c') ∧
      (∀ z, z < 480 ∨ (488 ≤ z ∧ z < 488 + 16 * gi ∧ ¬ (492 + 16 * n ≤ z ∧ z ≤ 496 + 16 * n)) ∨ (488 + 16 * gi ≤ z ∧ (c ≠ 0 → ¬ (488 + 16 * gi + 8 * c ≤ z ∧ z < 488 + 16 * gi + 8 * c + 8))) → vget img m z = vget img l z) := by
    have e0 : cutF f a (a + 0) = f := by
      funext j
      unfold cutF
      rw [if_neg (by omega)]
    obtain ⟨m, c', k1, k2, k3, k4, k5⟩ := key (12 - a) 0 l c (by omega) (by omega) (by rw [e0]; exact h) (by rw [e0]; exact id) (.inl rfl) (fun _ _ => rfl)
    refine ⟨m, c', need_of (by omega) ?_, k2, k3, k4, k5⟩
    rw [show (12 - (a : Int)).toNat = 12 - a by omega]
    exact k1
  obtain ⟨m, c', k1, k2⟩ := J
  refine ⟨m, c', ?_, k2⟩
  unfold bCut_M
  rw [if_neg (by omega), if_neg (by omega)]
  exact k1
end
end Go.Proofs.YtmmclabkkigiaaaDoor

set_option linter.unusedVariables false
set_option maxRecDepth 20000
namespace Go.Proofs.YtmmclabkkigiaaaDoor
open Go Go.RowKit
set_option linter.unusedSimpArgs false
set_option linter.unusedVariables false

def sameints_B0 (xs : List Int) (ys : List Int) (k8 : Int → Option (Bool)) (p7 : Int) : Option (Bool) :=
 if p7 < (xs.length : Int) then (need (0 ≤ p7 ∧ p7 < (xs.length : Int)) <|
need (0 ≤ p7 ∧ p7 < (ys.length : Int)) <|
if (xs.getD p7.toNat 0) = (ys.getD p7.toNat 0) then (need (-9223372036854775808 ≤ (p7 + 1) ∧ (p7 + 1) ≤ 9223372036854775807) <|
k8 (p7 + 1)) else (some false)) else (some true)

def sameints_M (xs : List Int) (ys : List Int) : Option (Bool) :=
 if (xs.length : Int) = (ys.length : Int) then (iter (fun k_ s_ => sameints_B0 xs ys k_ s_) FUEL 0) else (some false)

theorem sameints_walk {xs : List Int} {ys : List Int} {xa ya : Option Addr} {xc yc : Nat} {r : Bool} (B : Nat) (w : World) (hx : CellsAt xa (kInt.cells xs) w) (hy : CellsAt ya (kInt.cells ys) w) (hm : sameints_M xs ys = some r) : Spec Tryd.prog 24 #[(.slice xa xs.length xc), (.slice ya ys.length yc)] B w [] (fun v H' => v = .bool r ∧ H' = []) := by
 refine spec_Q Tryd.func24 rfl fun hs => ?_
 unfold sameints_M at hm
 refine W.sr fun K1 hK1 => ?_
 refine zE 1 (hK1 _ _ ?_)
 refine W.seq fun K2 hK2 => ?_
 refine W.sr fun K3 hK3 => ?_
 refine zE 5 (hK3 _ _ ?_)
 refine W.cond (!decide ((xs.length : Int) = (ys.length : Int))) (by kernel_rfl) (fun h4 => ?_) (fun h4 => ?_)
 rotate_left
 ·
  have h4p : (xs.length : Int) = (ys.length : Int) := of_decide_eq_true (bnot_false h4)
  replace hm := ite_yes hm h4p
  refine W.skip ?_
  refine hK2 _ _ ?_
  refine W.seq fun K5 hK5 => ?_
  refine W.sr fun K6 hK6 => ?_
  refine zE 1 (hK6 _ _ ?_)
  refine W.block ?_
  refine W.loop_iter (G := Int) (σ := Int) (fun | p7 => p7) (fun | p7, s_, w_ => (∃ us, s_ = slots 26 [(0, (.slice xa xs.length xc)), (1, (.slice ya ys.length yc)), (5, (.int .i64 p7))] us) ∧ St B w [] w_ []) 0 ⟨slots_intro _ (by kernel_rfl), hs⟩ hm ?_
  rintro k8 ih9 p7 _ w10 ⟨⟨us, rfl⟩, hs11⟩ hm
  replace hm : sameints_B0 xs ys k8 p7 = some r := hm
  unfold sameints_B0 at hm
  refine W.seq fun K12 hK12 => ?_
  refine W.sr fun K13 hK13 => ?_
  refine zE 4 (hK13 _ _ ?_)
  refine W.cond (decide (p7 < (xs.length : Int))) (by kernel_rfl) (fun h14 => ?_) (fun h14 => ?_)
  ·
   obtain ⟨h14p, hm⟩ := iY hm h14
   refine W.skip ?_
   refine hK12 _ _ ?_
   refine W.seq fun K15 hK15 => ?_
   refine W.block ?_
   refine W.seq fun K16 hK16 => ?_
   have hs17 := hs11.drew
   refine W.regionD [(0, 0), (0, 0), (3, 3), (4, 4), (0, 0), (0, 0), (48, 48), (64, 64), (136, 136)] (fun w_ => St B w [] w_ []) (by kernel_rfl) hs17 ?_
   refine any_val (v := (.slice xa xs.length xc)) (v' := (.slice xa xs.length xc)) 0 (by kernel_rfl) (fun _ => by kernel_rfl) rfl hs17 ?_
   refine any_val (v := (.int .i64 p7)) (v' := (.int .i64 p7)) 1 (by kernel_rfl) (fun _ => by kernel_rfl) rfl hs17 ?_
   obtain ⟨h19, hm⟩ := need_some hm
   have hk18 := lt_toNat h19
   refine any_R 2 (by kernel_rfl) (fun _ hS_ => runs_index (a := xa) (n := xs.length) (z := p7) (size := 1) p7.toNat (nat_of h19.1) hk18 (kInt.addr (hs17.oldCells hx) hk18) (by kernel_rfl)) hs17 ?_
   refine any_R 3 (by kernel_rfl) (fun _ hS_ => runs_load (ad := ((adr xa (p7.toNat * 1)).add 0)) (v := (.int .i64 (xs.getD p7.toNat 0))) (by kernel_rfl) (kInt.at (hS_.oldCells hx) hk18 0 0 rfl)) hs17 ?_
   refine any_val (v := (.slice ya ys.length yc)) (v' := (.slice ya ys.length yc)) 4 (by kernel_rfl) (fun _ => by kernel_rfl) rfl hs17 ?_
   refine any_val (v := (.int .i64 p7)) (v' := (.int .i64 p7)) 5 (by kernel_rfl) (fun _ => by kernel_rfl) rfl hs17 ?_
   obtain ⟨h21, hm⟩ := need_some hm
   have hk20 := lt_toNat h21
   refine any_R 6 (by kernel_rfl) (fun _ hS_ => runs_index (a := ya) (n := ys.length) (z := p7) (size := 1) p7.toNat (nat_of h21.1) hk20 (kInt.addr (hs17.oldCells hy) hk20) (by kernel_rfl)) hs17 ?_
   refine any_R 7 (by kernel_rfl) (fun _ hS_ => runs_load (ad := ((adr ya (p7.toNat * 1)).add 0)) (v := (.int .i64 (ys.getD p7.toNat 0))) (by kernel_rfl) (kInt.at (hS_.oldCells hy) hk20 0 0 rfl)) hs17 ?_
   refine any_val (v := (.bool (!decide ((xs.getD p7.toNat 0) = (ys.getD p7.toNat 0))))) (v' := (.bool (!decide ((xs.getD p7.toNat 0) = (ys.getD p7.toNat 0))))) 8 (by kernel_rfl) (fun _ => by kernel_rfl) rfl hs17 ?_
   refine any_done (by kernel_rfl) ?_
   refine hK16 _ _ ?_
   refine W.cond (!decide ((xs.getD p7.toNat 0) = (ys.getD p7.toNat 0))) (by kernel_rfl) (fun h22 => ?_) (fun h22 => ?_)
   rotate_left
   ·
    have h22p : (xs.getD p7.toNat 0) = (ys.getD p7.toNat 0) := of_decide_eq_true (bnot_false h22)
    replace hm := ite_yes hm h22p
    refine W.skip ?_
    refine normal_block ?_
    refine hK15 _ _ ?_
    refine W.region ?_
    refine zR 1 ?_
    obtain ⟨h23, hm⟩ := need_some hm
    refine zI _ (wrap_i64 h23.1 h23.2) ?_
    refine zE 1 ?_
    refine loopAt_next ?_
    exact ih9 (p7 + 1) _ _ ⟨slots_intro _ (by kernel_rfl), hs17⟩ hm
   ·
    have h22p : ¬ ((xs.getD p7.toNat 0) = (ys.getD p7.toNat 0)) := of_decide_eq_false (bnot_true h22)
    replace hm := ite_no hm h22p
    refine W.sr fun K24 hK24 => ?_
    refine zE 1 (hK24 _ _ ?_)
    refine W.ret (ret_block (ret_seq (ret_seq (ret_block (ret_seq ?_)))))
    obtain rfl := some_inj hm
    refine ret_of (.bool false) (by kernel_rfl) ⟨_, ⟨rfl, rfl⟩, hs17⟩
  ·
   obtain ⟨h14p, hm⟩ := iN hm h14
   refine W.exit (exit_seq (exit_seq (exit_here ?_)))
   refine hK5 _ _ ?_
   refine W.sr fun K25 hK25 => ?_
   refine zE 1 (hK25 _ _ ?_)
   refine W.ret ?_
   obtain rfl := some_inj hm
   refine ret_of (.bool true) (by kernel_rfl) ⟨_, ⟨rfl, rfl⟩, hs11⟩
 ·
  have h4p : ¬ ((xs.length : Int) = (ys.length : Int)) := of_decide_eq_false (bnot_true h4)
  replace hm := ite_no hm h4p
  refine W.sr fun K26 hK26 => ?_
  refine zE 1 (hK26 _ _ ?_)
  refine W.ret (ret_seq ?_)
  obtain rfl := some_inj hm
  refine ret_of (.bool false) (by kernel_rfl) ⟨_, ⟨rfl, rfl⟩, hs⟩

end Go.Proofs.YtmmclabkkigiaaaDoor

namespace Go.Proofs.YtmmclabkkigiaaaDoor
open Go Go.RowKit
set_option linter.unusedVariables false
set_option linter.unusedSimpArgs false

def listF (f : Nat → Int) : Nat → List Int
  | 0 => []
  | k + 1 => if f k = 0 then listF f k else listF f k ++ [f k]
def ownF (f : Nat → Int) (c : Int) : List Int := if c = 0 then listF f 12 else listF f 12 ++ [c]
theorem mem_listF {f : Nat → Int} {x : Int} : ∀ {n : Nat}, x ∈ listF f n ↔ x ≠ 0 ∧ ∃ k, k < n ∧ f k = x
  | 0 => by simp [listF]
  | n + 1 => by
    unfold listF
    by_cases h : f n = 0
    · rw [if_pos h, mem_listF]
      constructor
      · rintro ⟨h1, k, h2, h3⟩; exact ⟨h1, k, by omega, h3⟩
      · rintro ⟨h1, k, h2, h3⟩
        refine ⟨h1, k, ?_, h3⟩
        by_cases e : k = n
        · subst e; omega
        · omega
    · rw [if_neg h, List.mem_append, mem_listF, List.mem_singleton]
      constructor
      · rintro (⟨h1, k, h2, h3⟩ | rfl)
        · exact ⟨h1, k, by omega, h3⟩
        · exact ⟨h, n, by omega, rfl⟩
      · rintro ⟨h1, k, h2, h3⟩
        by_cases e : k = n
        · subst e; exact .inr h3.symm
        · exact .inl ⟨h1, k, by omega, h3⟩
theorem nodup_listF {f : Nat → Int} : ∀ {n : Nat}, (∀ j k, j < n → k < n → f j ≠ 0 → f j = f k → j = k) → (listF f n).Nodup
  | 0, _ => by simp [listF]
  | n + 1, h => by
    have ih := nodup_listF (f := f) (n := n) fun j k hj hk => h j k (by omega) (by omega)
    unfold listF
    by_cases h0 : f n = 0
    · rw [if_pos h0]; exact ih
    · rw [if_neg h0]
      refine List.nodup_append.2 ⟨ih, by simp, fun a ha b hb e => ?_⟩
      rw [List.mem_singleton] at hb
      subst hb
      subst e
      obtain ⟨_, k, hk, e2⟩ := mem_listF.1 ha
      have := h k n (by omega) (by omega) (by omega) e2
      omega
theorem mem_ownF {f : Nat → Int} {c x : Int} : x ∈ ownF f c ↔ x ≠ 0 ∧ ((∃ k, k < 12 ∧ f k = x) ∨ c = x) := by
  unfold ownF
  by_cases h : c = 0
  · rw [if_pos h, mem_listF]
    constructor
    · rintro ⟨h1, h2⟩; exact ⟨h1, .inl h2⟩
    · rintro ⟨h1, h2 | h2⟩
      · exact ⟨h1, h2⟩
      · omega
  · rw [if_neg h, List.mem_append, mem_listF, List.mem_singleton]
    constructor
    · rintro (⟨h1, h2⟩ | rfl)
      · exact ⟨h1, .inl h2⟩
      · exact ⟨h, .inr rfl⟩
    · rintro ⟨h1, h2 | h2⟩
      · exact .inl ⟨h1, h2⟩
      · exact .inr h2.symm
theorem listF_upd {f : Nat → Int} {k : Nat} {b : Int} (h0 : f k = 0) (hb : b ≠ 0) : ∀ {n : Nat}, (listF (upd f k b) n).length = (listF f n).length + (if k < n then 1 else 0)
  | 0 => by simp [listF]
  | n + 1 => by
    have ih := listF_upd h0 hb (n := n)
    unfold listF
    by_cases e : n = k
    · subst e
      rw [upd_at, if_neg hb, if_pos h0, if_pos (by omega), List.length_append, ih, if_neg (by omega)]
      rfl
    · rw [upd_ne e]
      by_cases hk : k < n
      · rw [if_pos hk] at ih
        rw [if_pos (show k < n + 1 by omega)]
        split
        · exact ih
        · simp only [List.length_append, List.length_cons, List.length_nil]; omega
      · rw [if_neg hk] at ih
        rw [if_neg (show ¬ k < n + 1 by omega)]
        split
        · exact ih
        · simp only [List.length_append, List.length_cons, List.length_nil]; omega
theorem cnt_list {gb : Nat} : ∀ {xs : List Int}, xs.Nodup → (∀ x ∈ xs, 0 < x ∧ x < (gb : Int)) → 0 < gb → cnt (fun b => decide (b = 0) || decide ((b : Int) ∈ xs)) gb = 1 + xs.length
  | [], _, _, h => by
    have e : cnt (fun b => decide (b = 0) || decide ((b : Int) ∈ ([] : List Int))) gb = cnt (fun b => decide (b < 1)) gb := cnt_congr fun i hi => by simp [Nat.lt_one_iff]
    rw [e, cnt_dec]
    simp
    omega
  | x :: xs, hn, hr, h => by
    have hx := hr x (by simp)
    have hn' := List.nodup_cons.1 hn
    have ih := cnt_list hn'.2 (fun y hy => hr y (by simp [hy])) h
    have hset := cnt_set (f := fun b => decide (b = 0) || decide ((b : Int) ∈ xs)) (j := x.toNat) (b := true) (n := gb) (by omega)
    have e : cnt (fun b => decide (b = 0) || decide ((b : Int) ∈ x :: xs)) gb = cnt (fun i => if i = x.toNat then true else decide (i = 0) || decide ((i : Int) ∈ xs)) gb := cnt_congr fun i hi => by
      by_cases e : i = x.toNat
      · rw [if_pos e, Bool.or_eq_true]
        refine .inr (decide_eq_true ?_)
        rw [show (i : Int) = x by omega]
        simp
      · rw [if_neg e]
        congr 1
        exact decide_eq_decide.2 ⟨fun q => (List.mem_cons.1 q).resolve_left (by omega), fun q => List.mem_cons.2 (.inr q)⟩
    have h0 : (decide (x.toNat = 0) || decide (((x.toNat : Nat) : Int) ∈ xs)) = false := by
      rw [Bool.or_eq_false_iff]
      refine ⟨decide_eq_false (by omega), decide_eq_false fun q => hn'.1 ?_⟩
      rw [show x = ((x.toNat : Nat) : Int) by omega]
      exact q
    rw [h0, ih, ← e] at hset
    simp at hset ⊢
    omega
section
variable {gi gb : Int} {img : List Int} {l : List (Int × Int)} {n : Int} {O : Nat → Prop} {hd : Hd} {f : Nat → Int} {c : Int}
theorem Mp.nodup (h : Mp gi gb img l n O hd f c) : (ownF f c).Nodup := by
  have hl := nodup_listF (f := f) (n := 12) h.inj
  unfold ownF
  by_cases hc : c = 0
  · rw [if_pos hc]; exact hl
  · rw [if_neg hc]
    refine List.nodup_append.2 ⟨hl, by simp, fun a ha b hb e => ?_⟩
    rw [List.mem_singleton] at hb
    subst hb
    subst e
    obtain ⟨_, k, hk, e2⟩ := mem_listF.1 ha
    exact h.fc k hk hc e2
theorem Mp.ownIn (h : Mp gi gb img l n O hd f c) : ∀ x ∈ ownF f c, 0 < x ∧ x < gb := by
  intro x hx
  obtain ⟨h1, h2⟩ := mem_ownF.1 hx
  have hrc := h.rc
  rcases h2 with ⟨k, hk, e⟩ | e
  · have := h.rf k hk
    omega
  · omega
theorem Mp.count (h : Mp gi gb img l n O hd f c) (hO : ∀ b, ¬ O b) : cnt (mbits img l 480) gb.toNat = 1 + (ownF f c).length := by
  have hg := h.dk.g
  rw [← cnt_list (gb := gb.toNat) h.nodup (fun x hx => by have := h.ownIn x hx; omega) (by omega)]
  refine cnt_congr fun b hb => ?_
  rw [Bool.eq_iff_iff, h.bits b (by omega), Bool.or_eq_true, decide_eq_true_iff, decide_eq_true_iff, mem_ownF]
  constructor
  · rintro (q | q | q | q)
    · exact .inl q
    · by_cases e : b = 0
      · exact .inl e
      · exact .inr ⟨by omega, .inl q⟩
    · by_cases e : b = 0
      · exact .inl e
      · exact .inr ⟨by omega, .inr q⟩
    · exact absurd q (hO b)
  · rintro (q | ⟨_, q | q⟩)
    · exact .inl q
    · exact .inr (.inl q)
    · exact .inr (.inr (.inl q))
theorem Mp.list (h : Mp gi gb img l n O hd f c) : bList_M img l 1 gi gb n = some (ownF f c) := by
  have hlen : ∀ k, (listF f k).length ≤ k := by
    intro k
    induction k with
    | zero => simp [listF]
    | succ k ih =>
      unfold listF
      split
      · omega
      · simp only [List.length_append, List.length_cons, List.length_nil]; omega
  have hD : bList_D24 img l 1 gi gb n (listF f 12) = some (ownF f c) := by
    unfold bList_D24 ownF
    rw [h.chain]
    simp only [Option.bind]
    by_cases hc : c = 0
    · rw [if_pos hc, if_pos hc]
    · rw [if_neg hc, if_neg hc]
      have := hlen 12
      exact need_of (by omega) rfl
  have key : ∀ (t k : Nat), k + t = 12 → rounds (fun k_ c_ s_ => bList_R24 img l 1 gi gb n k_ c_ s_) (fun s_ => bList_D24 img l 1 gi gb n s_) t k (listF f k) = some (ownF f c) := by
    intro t
    induction t with
    | zero =>
      intro k hk
      rw [show k = 12 by omega]
      exact hD
    | succ t ih =>
      intro k hk
      have e := ih (k + 1) (by omega)
      have hl := hlen k
      refine Eq.trans (show _ = bList_R24 img l 1 gi gb n k (rounds (fun k_ c_ s_ => bList_R24 img l 1 gi gb n k_ c_ s_) (fun s_ => bList_D24 img l 1 gi gb n s_) t (k + 1)) (listF f k) from rfl) ?_
      generalize rounds (fun k_ c_ s_ => bList_R24 img l 1 gi gb n k_ c_ s_) (fun s_ => bList_D24 img l 1 gi gb n s_) t (k + 1) = C at *
      unfold bList_R24
      simp only [Option.bind, Int.zero_add]
      rw [h.at (by omega)]
      simp only [if_true]
      rw [listF] at e
      by_cases h0 : f k = 0
      · rw [if_pos h0] at e ⊢
        exact e
      · rw [if_neg h0] at e ⊢
        exact need_of (by omega) e
  unfold bList_M
  exact need_of (by omega) (key 12 0 rfl)
theorem sameints_eq (xs ys : List Int) (hx : xs.length ≤ 1000000) (hy : ys.length ≤ 1000000) : sameints_M xs ys = some (decide (xs = ys)) := by
  unfold sameints_M
  by_cases hl : (xs.length : Int) = (ys.length : Int)
  · first | rw [if_pos hl] | rw [if_neg (by simpa using hl)]
    refine iter_run (fun p => 0 ≤ p ∧ p ≤ (xs.length : Int) ∧ ∀ j : Nat, (j : Int) < p → xs.getD j 0 = ys.getD j 0) (fun p => ((xs.length : Int) - p).toNat) ?_ _ _ ⟨by omega, by omega, fun j hj => by omega⟩ (fuel_lt (by omega))
    rintro k p ⟨h1, h2, h3⟩ ih
    unfold sameints_B0
    by_cases hp : p < (xs.length : Int)
    · rw [if_pos hp]
      refine need_of (by omega) (need_of (by omega) ?_)
      by_cases e : xs.getD p.toNat 0 = ys.getD p.toNat 0
      · rw [if_pos e]
        refine need_of (by omega) (ih _ ⟨by omega, by omega, fun j hj => ?_⟩ (by omega))
        by_cases ej : (j : Int) = p
        · rw [show j = p.toNat by omega]; exact e
        · exact h3 j (by omega)
      · rw [if_neg e, decide_eq_false fun q => e (by rw [q])]
    · rw [if_neg hp, decide_eq_true (eq_of_getD 0 (by omega) fun j hj => h3 j (by omega))]
  · first | rw [if_neg hl] | rw [if_pos (by simpa using hl)]
    rw [decide_eq_false fun q => hl (by rw [q])]
theorem Mp.take (h : Mp gi gb img l n O hd f c) {k : Nat} (hk : k < 12) (hl : l.length + 20 ≤ 96) :
    (f k ≠ 0 ∧ bTake_M img l 1 gi gb n (k : Int) = some (f k, 0, l)) ∨
    (f k = 0 ∧ gb - (cnt (mbits img l 480) gb.toNat : Nat) < needF f c k ∧ bTake_M img l 1 gi gb n (k : Int) = some (0, 7, l)) ∨
    (f k = 0 ∧ ¬ gb - (cnt (mbits img l 480) gb.toNat : Nat) < needF f c k ∧ ∃ m b c', bTake_M img l 1 gi gb n (k : Int) = some (b, 0, m) ∧ m.length ≤ l.length + 20 ∧ Mp gi gb img m n O hd (upd f k b) c' ∧ 0 < b ∧ mbits img l 480 b.toNat = false ∧
      (c' = c ∧ (k < 4 ∨ c ≠ 0) ∨ c = 0 ∧ 4 ≤ k ∧ 0 < c' ∧ mbits img l 480 c'.toNat = false) ∧ (∀ z, 488 + 16 * gi + 8 * b ≤ z ∧ z < 488 + 16 * gi + 8 * b + 8 → vget img m z = 0) ∧
      (∀ z, ¬ (480 ≤ z ∧ z < 488) → ¬ (492 + 16 * n ≤ z ∧ z ≤ 496 + 16 * n) → ¬ (488 + 16 * gi + 8 * b ≤ z ∧ z < 488 + 16 * gi + 8 * b + 8) → ¬ (4 ≤ k ∧ 488 + 16 * gi + 8 * c' ≤ z ∧ z < 488 + 16 * gi + 8 * c' + 8) → vget img m z = vget img l z)) := by
  have hg := h.dk.g
  have hlen := h.dk.len
  have hw := h.dk.words
  have hnr := h.nr
  have hrc := h.rc
  unfold bTake_M
  rw [h.at hk]
  simp only [Option.bind, if_true]
  unfold bTake_J1
  by_cases h0 : f k = 0
  rotate_left
  · refine .inl ⟨h0, ?_⟩
    rw [if_pos (by simp [h0])]
  refine .inr ?_
  rw [decide_eq_true h0, if_neg (by decide)]
  have hcnt := cnt_le (mbits img l 480) gb.toNat
  have hfree := afree_ok (img := img) (l := l) (gi := gi) (gb := gb) (ia := 472) (ba := 480) h.dk.vr (by omega) (by omega) (by omega) (by omega)
  unfold freeF at hfree
  have hN : needF f c k = if k < 4 ∨ c ≠ 0 then 1 else 2 := by unfold needF; rw [if_pos h0]
  rw [show ∀ x : Option (Int × Int × List (Int × Int)), Go.Proofs.YtmmclabkkigiaaaDoor.need ((img.length : Int) ≤ 1000000000000) x = x from fun x => need_of (by omega) rfl, if_pos ⟨h.dk.may, by omega⟩, place6 h.dk.may, place7 h.dk.may]
  simp only [Int.reduceMul, Int.reduceAdd]
  rw [hfree, h.need hk]
  simp only [Option.bind]
  by_cases hfr : gb - (cnt (mbits img l 480) gb.toNat : Nat) < needF f c k
  · rw [if_pos hfr]
    exact .inl ⟨h0, hfr, rfl⟩
  refine .inr ⟨h0, hfr, ?_⟩
  rw [if_neg hfr, h.word hk]
  simp only
  -- the least one that is free
  have lowest : ∀ l', cnt (mbits img l' 480) gb.toNat < gb.toNat → ∃ i, i < gb.toNat ∧ mbits img l' 480 i = false ∧ ∀ j, j < i → mbits img l' 480 j = true := fun l' hl' => by
    rcases lst_cases (mbits img l' 480) gb.toNat with ⟨i, h1, h2, h3, _⟩ | ⟨h1, _⟩
    · exact ⟨i, h1, h2, h3⟩
    · have := cnt_full h1
      omega
  obtain ⟨i, i1, i2, i3⟩ := lowest l (by rw [hN] at hfr; split at hfr <;> omega)
  by_cases hc : k < 4 ∨ c ≠ 0
  · have ht : (if k < 4 then true else !decide (c = 0)) = true := by
      rcases hc with hc | hc
      · rw [if_pos hc]
      · split
        · rfl
        · simp [hc]
    rw [ht, if_pos rfl]
    obtain ⟨m, t1, t2, t3, t4, t5, t6⟩ := h.takeW hk hc h0 i1 i2 i3 (by omega)
    unfold bTake_J2
    rw [t1]
    refine ⟨m, (i : Int), c, rfl, by omega, t4, by omega, by rw [Int.toNat_natCast]; exact i2, .inl ⟨rfl, hc⟩, fun z hz => ?_, fun z z1 z2 z3 z4 => ?_⟩
    · rw [t5 z (by omega), if_neg, if_pos hz]
      have hi3 : ¬ c = (i : Int) := fun e => by
        have := (h.bits i (by omega)).2 (.inr (.inr (.inl e)))
        rw [i2] at this
        cases this
      unfold wordAt
      by_cases h4 : k < 4
      · rw [if_pos h4]; omega
      · rw [if_neg h4]; omega
    · rw [t5 z z1, if_neg, if_neg z3]
      unfold wordAt
      by_cases h4 : k < 4
      · rw [if_pos h4]; omega
      · rw [if_neg h4]; omega
  · have hc0 : c = 0 := by omega
    have hk4 : 4 ≤ k := by omega
    subst hc0
    rw [if_neg (show ¬ k < 4 by omega), if_neg (by simp), h.own (by omega), show 488 + 16 * n + 8 = 496 + 16 * n by omega]
    simp only
    obtain ⟨m1, t1, t2, t3, t4, t5, t6⟩ := h.takeC i1 i2 i3 (by omega)
    rw [t1]
    simp only [if_true]
    rw [t4.word hk]
    simp only
    have hset := cnt_set (f := mbits img l 480) (j := i) (b := true) (n := gb.toNat) i1
    have hcc : cnt (mbits img m1 480) gb.toNat = cnt (fun j => if j = i then true else mbits img l 480 j) gb.toNat := cnt_congr fun j hj => t6 j (by omega)
    rw [← hcc, i2] at hset
    simp at hset
    have hN2 : needF f 0 k = 2 := by rw [hN, if_neg (by omega)]
    rw [hN2] at hfr
    obtain ⟨i', j1, j2, j3⟩ := lowest m1 (by omega)
    obtain ⟨m, s1, s2, s3, s4, s5, s6⟩ := t4.takeW hk (.inr (by omega)) h0 j1 j2 j3 (by omega)
    unfold bTake_J2
    rw [s1]
    have hii : i' ≠ i := fun e => by
      have := t6 i' (by omega)
      rw [if_pos e, j2] at this
      cases this
    have hb0 : mbits img l 480 i' = false := by
      have := t6 i' (by omega)
      rw [if_neg hii, j2] at this
      exact this.symm
    refine ⟨m, (i' : Int), (i : Int), rfl, by omega, s4, by omega, by rw [Int.toNat_natCast]; exact hb0, .inr ⟨by trivial, hk4, by omega, by rw [Int.toNat_natCast]; exact i2⟩, fun z hz => ?_, fun z z1 z2 z3 z4 => ?_⟩
    · rw [s5 z (by omega), if_neg, if_pos hz]
      unfold wordAt
      rw [if_neg (by omega)]
      omega
    · rw [s5 z z1, if_neg, if_neg z3, t5 z z1, if_neg (by omega), if_neg (by omega)]
      unfold wordAt
      rw [if_neg (by omega)]
      omega
end
end Go.Proofs.YtmmclabkkigiaaaDoor

set_option maxRecDepth 20000
namespace Go.Proofs.YtmmclabkkigiaaaDoor
open Go Go.RowKit
set_option linter.unusedSimpArgs false
set_option linter.unusedVariables false



theorem ig_nil {gw gi gb n_ : Int} (B : Nat) (w : World) : Spec Tryd.prog 39 #[(.pointer none), (.agg #[(.int .i64 gw), (.int .i64 gi), (.int .i64 gb)]), (.int .i64 n_)] B w [] (fun v H' => v = (.tuple #[(.agg #[(.int .u64 0), (.int .u64 0), (.int .u64 0), (.int .u64 0), (.int .u64 0), (.int .u64 0), (.int .u64 0), (.int .u64 0), (.int .u64 0), (.int .u64 0)]), (.int .i64 2)]) ∧ H' = []) := by
 refine spec_Q Tryd.func39 rfl fun hs => ?_
 refine W.sr fun K1 hK1 => ?_
 refine zN [(.int .i64 gw), (.int .i64 gi), (.int .i64 gb)] 23 hs fun b4 w2 hs3 => ?_
 refine zN [(.int .u64 0), (.int .u64 0), (.int .u64 0), (.int .u64 0), (.int .u64 0), (.int .u64 0), (.int .u64 0), (.int .u64 0), (.int .u64 0), (.int .u64 0)] 78 hs3 fun b7 w5 hs6 => ?_
 refine zE 1 (hK1 _ _ ?_)
 refine W.sr fun K8 hK8 => ?_
 refine zR 1 ?_
 refine ops_R (runs_loadAgg (ad := ⟨b4, 0, none⟩) (cs := [(.int .i64 gw), (.int .i64 gi), (.int .i64 gb)]) (by kernel_rfl) (cells_sub (hs6.heapAt 1 rfl) rfl)) ?_
 refine zR 1 ?_
 refine zC00 hs6 (ifind_nil (gw := gw) (gi := gi) (gb := gb) (n_ := n_) B _) fun w9 hs11 => ?_
 refine zE 5 (hK8 _ _ ?_)
 refine W.seq fun K12 hK12 => ?_
 refine W.sr fun K13 hK13 => ?_
 refine zE 2 (hK13 _ _ ?_)
 refine W.cond_true true (by kernel_rfl) rfl ?_
 refine W.sr fun K14 hK14 => ?_
 refine zR 2 ?_
 refine ops_store (off := 0) (cs := [(.int .u64 0), (.int .u64 0), (.int .u64 0), (.int .u64 0), (.int .u64 0), (.int .u64 0), (.int .u64 0), (.int .u64 0), (.int .u64 0), (.int .u64 0)]) (vs := [(.int .u64 0), (.int .u64 0), (.int .u64 0), (.int .u64 0), (.int .u64 0), (.int .u64 0), (.int .u64 0), (.int .u64 0), (.int .u64 0), (.int .u64 0)]) hs11 (by kernel_rfl) (by simp) rfl (fun w15 hs16 => ?_)
 have hs17 : St B w [] w15 [blk b7 (.cells [(.int .u64 0), (.int .u64 0), (.int .u64 0), (.int .u64 0), (.int .u64 0), (.int .u64 0), (.int .u64 0), (.int .u64 0), (.int .u64 0), (.int .u64 0)].toArray 78 (0, 0)), blk b4 (.cells [(.int .i64 gw), (.int .i64 gi), (.int .i64 gb)].toArray 23 (0, 0))] := hs16
 refine zE 1 (hK14 _ _ ?_)
 refine W.ret (ret_seq ?_)
 have hs18 := St.tk0 hs17
 refine ret_of (.tuple #[(.agg #[(.int .u64 0), (.int .u64 0), (.int .u64 0), (.int .u64 0), (.int .u64 0), (.int .u64 0), (.int .u64 0), (.int .u64 0), (.int .u64 0), (.int .u64 0)]), (.int .i64 2)]) (results_cell2 (ad := ⟨b7, 0, none⟩) (cs := [(.int .u64 0), (.int .u64 0), (.int .u64 0), (.int .u64 0), (.int .u64 0), (.int .u64 0), (.int .u64 0), (.int .u64 0), (.int .u64 0), (.int .u64 0)]) rfl (by kernel_rfl) (by kernel_rfl) (by kernel_rfl) (cells_sub (hs17.heapAt 0 rfl) rfl)) ⟨_, ⟨rfl, rfl⟩, hs18⟩



end Go.Proofs.YtmmclabkkigiaaaDoor

set_option maxRecDepth 20000
set_option maxHeartbeats 1000000
namespace Go.Proofs.YtmmclabkkigiaaaDoor
open Go Go.RowKit
set_option linter.unusedSimpArgs false
set_option linter.unusedVariables false

theorem bof_ok {vb : Nat} {img : List Int} {l : List (Int × Int)} {gw gi gb n_ : Int} (B : Nat) (w : World) (hv : ViewAt (ptr vb) img l w) (hP : (igetM img l gw gi gb n_).2 = 0) : Spec Tryd.prog 11 #[(.pointer (some ⟨vb, 0, none⟩)), (.agg #[(.int .i64 gw), (.int .i64 gi), (.int .i64 gb)]), (.int .i64 n_)] B w [] (fun v H' => ∃ mb, v = .tuple #[ptr mb, .int .i64 0] ∧ H' = [blk mb (.cells [(.pointer (some ⟨vb, 0, none⟩)), (.int .i64 gw), (.int .i64 gi), (.int .i64 gb), (.int .i64 n_)].toArray 85 (0, 0))]) := by
 refine spec_Q Tryd.func11 rfl fun hs => ?_
 refine W.sr fun K1 hK1 => ?_
 refine zN [(.int .i64 gw), (.int .i64 gi), (.int .i64 gb)] 23 hs fun b4 w2 hs3 => ?_
 refine zE 2 (hK1 _ _ ?_)
 refine W.sr fun K5 hK5 => ?_
 refine zR 1 ?_
 refine ops_R (runs_loadAgg (ad := ⟨b4, 0, none⟩) (cs := [(.int .i64 gw), (.int .i64 gi), (.int .i64 gb)]) (by kernel_rfl) (cells_sub (hs3.heapAt 0 rfl) rfl)) ?_
 refine zR 1 ?_
 refine zC00 hs3 (ig_spec (gw := gw) (gi := gi) (gb := gb) (n_ := n_) (hv := (viewAt_old hs3 hv)) B _) fun w6 hs8 => ?_
 refine zR 3 ?_
 refine zN [(.int .u64 0), (.int .u64 0), (.int .u64 0), (.int .u64 0), (.int .u64 0), (.int .u64 0), (.int .u64 0), (.int .u64 0), (.int .u64 0), (.int .u64 0)] 78 hs8 fun b11 w9 hs10 => ?_
 refine ops_store (off := 0) (cs := [(.int .u64 0), (.int .u64 0), (.int .u64 0), (.int .u64 0), (.int .u64 0), (.int .u64 0), (.int .u64 0), (.int .u64 0), (.int .u64 0), (.int .u64 0)]) (vs := [(.int .u64 ((igetM img l gw gi gb n_).1.k)), (.int .u64 ((igetM img l gw gi gb n_).1.l)), (.int .u64 ((igetM img l gw gi gb n_).1.o)), (.int .u64 ((igetM img l gw gi gb n_).1.s)), (.int .u64 ((igetM img l gw gi gb n_).1.a)), (.int .u64 ((igetM img l gw gi gb n_).1.b)), (.int .u64 ((igetM img l gw gi gb n_).1.c)), (.int .u64 ((igetM img l gw gi gb n_).1.d)), (.int .u64 ((igetM img l gw gi gb n_).1.e)), (.int .u64 ((igetM img l gw gi gb n_).1.m))]) hs10 (by kernel_rfl) (by simp) rfl (fun w12 hs13 => ?_)
 have hs14 : St B w [] w12 [blk b11 (.cells [(.int .u64 ((igetM img l gw gi gb n_).1.k)), (.int .u64 ((igetM img l gw gi gb n_).1.l)), (.int .u64 ((igetM img l gw gi gb n_).1.o)), (.int .u64 ((igetM img l gw gi gb n_).1.s)), (.int .u64 ((igetM img l gw gi gb n_).1.a)), (.int .u64 ((igetM img l gw gi gb n_).1.b)), (.int .u64 ((igetM img l gw gi gb n_).1.c)), (.int .u64 ((igetM img l gw gi gb n_).1.d)), (.int .u64 ((igetM img l gw gi gb n_).1.e)), (.int .u64 ((igetM img l gw gi gb n_).1.m))].toArray 78 (0, 0)), blk b4 (.cells [(.int .i64 gw), (.int .i64 gi), (.int .i64 gb)].toArray 23 (0, 0))] := hs13
 refine zE 1 (hK5 _ _ ?_)
 refine W.seq fun K15 hK15 => ?_
 refine W.sr fun K16 hK16 => ?_
 refine zE 2 (hK16 _ _ ?_)
 refine W.cond (!decide ((igetM img l gw gi gb n_).2 = 0)) (by kernel_rfl) (fun h17 => ?_) (fun h17 => ?_)
 ·
  have h17p : ¬ ((igetM img l gw gi gb n_).2 = 0) := of_decide_eq_false (bnot_true h17)
  refine W.sr fun K18 hK18 => ?_
  refine zE 3 (hK18 _ _ ?_)
  refine W.ret (ret_seq ?_)
  exact absurd hP (by assumption)
 ·
  have h17p : (igetM img l gw gi gb n_).2 = 0 := of_decide_eq_true (bnot_false h17)
  refine W.skip ?_
  refine hK15 _ _ ?_
  refine W.sr fun K19 hK19 => ?_
  refine zR 1 ?_
  refine ops_R (runs_loadAgg (ad := ⟨b4, 0, none⟩) (cs := [(.int .i64 gw), (.int .i64 gi), (.int .i64 gb)]) (by kernel_rfl) (cells_sub (hs14.heapAt 1 rfl) rfl)) ?_
  refine zR 2 ?_
  refine zN [(.pointer (some ⟨vb, 0, none⟩)), (.int .i64 gw), (.int .i64 gi), (.int .i64 gb), (.int .i64 n_)] 85 hs14 fun b22 w20 hs21 => ?_
  refine zE 2 (hK19 _ _ ?_)
  refine W.ret ?_
  have hs23 := St.tk1 hs21
  refine ret_of (.tuple #[(.pointer (some ⟨b22, 0, none⟩)), (.int .i64 0)]) (by kernel_rfl) ⟨_, ⟨b22, rfl, rfl⟩, hs23⟩

theorem bof_err {vb : Nat} {img : List Int} {l : List (Int × Int)} {gw gi gb n_ : Int} (B : Nat) (w : World) (hv : ViewAt (ptr vb) img l w) (hN : ¬ ((igetM img l gw gi gb n_).2 = 0)) : Spec Tryd.prog 11 #[(.pointer (some ⟨vb, 0, none⟩)), (.agg #[(.int .i64 gw), (.int .i64 gi), (.int .i64 gb)]), (.int .i64 n_)] B w [] (fun v H' => v = .tuple #[.pointer none, .int .i64 ((igetM img l gw gi gb n_).2)] ∧ H' = []) := by
 refine spec_Q Tryd.func11 rfl fun hs => ?_
 refine W.sr fun K1 hK1 => ?_
 refine zN [(.int .i64 gw), (.int .i64 gi), (.int .i64 gb)] 23 hs fun b4 w2 hs3 => ?_
 refine zE 2 (hK1 _ _ ?_)
 refine W.sr fun K5 hK5 => ?_
 refine zR 1 ?_
 refine ops_R (runs_loadAgg (ad := ⟨b4, 0, none⟩) (cs := [(.int .i64 gw), (.int .i64 gi), (.int .i64 gb)]) (by kernel_rfl) (cells_sub (hs3.heapAt 0 rfl) rfl)) ?_
 refine zR 1 ?_
 refine zC00 hs3 (ig_spec (gw := gw) (gi := gi) (gb := gb) (n_ := n_) (hv := (viewAt_old hs3 hv)) B _) fun w6 hs8 => ?_
 refine zR 3 ?_
 refine zN [(.int .u64 0), (.int .u64 0), (.int .u64 0), (.int .u64 0), (.int .u64 0), (.int .u64 0), (.int .u64 0), (.int .u64 0), (.int .u64 0), (.int .u64 0)] 78 hs8 fun b11 w9 hs10 => ?_
 refine ops_store (off := 0) (cs := [(.int .u64 0), (.int .u64 0), (.int .u64 0), (.int .u64 0), (.int .u64 0), (.int .u64 0), (.int .u64 0), (.int .u64 0), (.int .u64 0), (.int .u64 0)]) (vs := [(.int .u64 ((igetM img l gw gi gb n_).1.k)), (.int .u64 ((igetM img l gw gi gb n_).1.l)), (.int .u64 ((igetM img l gw gi gb n_).1.o)), (.int .u64 ((igetM img l gw gi gb n_).1.s)), (.int .u64 ((igetM img l gw gi gb n_).1.a)), (.int .u64 ((igetM img l gw gi gb n_).1.b)), (.int .u64 ((igetM img l gw gi gb n_).1.c)), (.int .u64 ((igetM img l gw gi gb n_).1.d)), (.int .u64 ((igetM img l gw gi gb n_).1.e)), (.int .u64 ((igetM img l gw gi gb n_).1.m))]) hs10 (by kernel_rfl) (by simp) rfl (fun w12 hs13 => ?_)
 have hs14 : St B w [] w12 [blk b11 (.cells [(.int .u64 ((igetM img l gw gi gb n_).1.k)), (.int .u64 ((igetM img l gw gi gb n_).1.l)), (.int .u64 ((igetM img l gw gi gb n_).1.o)), (.int .u64 ((igetM img l gw gi gb n_).1.s)), (.int .u64 ((igetM img l gw gi gb n_).1.a)), (.int .u64 ((igetM img l gw gi gb n_).1.b)), (.int .u64 ((igetM img l gw gi gb n_).1.c)), (.int .u64 ((igetM img l gw gi gb n_).1.d)), (.int .u64 ((igetM img l gw gi gb n_).1.e)), (.int .u64 ((igetM img l gw gi gb n_).1.m))].toArray 78 (0, 0)), blk b4 (.cells [(.int .i64 gw), (.int .i64 gi), (.int .i64 gb)].toArray 23 (0, 0))] := hs13
 refine zE 1 (hK5 _ _ ?_)
 refine W.seq fun K15 hK15 => ?_
 refine W.sr fun K16 hK16 => ?_
 refine zE 2 (hK16 _ _ ?_)
 refine W.cond (!decide ((igetM img l gw gi gb n_).2 = 0)) (by kernel_rfl) (fun h17 => ?_) (fun h17 => ?_)
 ·
  have h17p : ¬ ((igetM img l gw gi gb n_).2 = 0) := of_decide_eq_false (bnot_true h17)
  refine W.sr fun K18 hK18 => ?_
  refine zE 3 (hK18 _ _ ?_)
  refine W.ret (ret_seq ?_)
  have hs19 := St.tk0 hs14
  refine ret_of (.tuple #[(.pointer none), (.int .i64 ((igetM img l gw gi gb n_).2))]) (by kernel_rfl) ⟨_, ⟨rfl, rfl⟩, hs19⟩
 ·
  have h17p : (igetM img l gw gi gb n_).2 = 0 := of_decide_eq_true (bnot_false h17)
  refine W.skip ?_
  refine hK15 _ _ ?_
  refine W.sr fun K20 hK20 => ?_
  refine zR 1 ?_
  refine ops_R (runs_loadAgg (ad := ⟨b4, 0, none⟩) (cs := [(.int .i64 gw), (.int .i64 gi), (.int .i64 gb)]) (by kernel_rfl) (cells_sub (hs14.heapAt 1 rfl) rfl)) ?_
  refine zR 2 ?_
  refine zN [(.pointer (some ⟨vb, 0, none⟩)), (.int .i64 gw), (.int .i64 gi), (.int .i64 gb), (.int .i64 n_)] 85 hs14 fun b23 w21 hs22 => ?_
  refine zE 2 (hK20 _ _ ?_)
  refine W.ret ?_
  exact absurd (by assumption) hN

theorem bof_nil {gw gi gb n_ : Int} (B : Nat) (w : World) : Spec Tryd.prog 11 #[(.pointer none), (.agg #[(.int .i64 gw), (.int .i64 gi), (.int .i64 gb)]), (.int .i64 n_)] B w [] (fun v H' => v = .tuple #[.pointer none, .int .i64 2] ∧ H' = []) := by
 refine spec_Q Tryd.func11 rfl fun hs => ?_
 refine W.sr fun K1 hK1 => ?_
 refine zN [(.int .i64 gw), (.int .i64 gi), (.int .i64 gb)] 23 hs fun b4 w2 hs3 => ?_
 refine zE 2 (hK1 _ _ ?_)
 refine W.sr fun K5 hK5 => ?_
 refine zR 1 ?_
 refine ops_R (runs_loadAgg (ad := ⟨b4, 0, none⟩) (cs := [(.int .i64 gw), (.int .i64 gi), (.int .i64 gb)]) (by kernel_rfl) (cells_sub (hs3.heapAt 0 rfl) rfl)) ?_
 refine zR 1 ?_
 refine zC00 hs3 (ig_nil (gw := gw) (gi := gi) (gb := gb) (n_ := n_) B _) fun w6 hs8 => ?_
 refine zR 3 ?_
 refine zN [(.int .u64 0), (.int .u64 0), (.int .u64 0), (.int .u64 0), (.int .u64 0), (.int .u64 0), (.int .u64 0), (.int .u64 0), (.int .u64 0), (.int .u64 0)] 78 hs8 fun b11 w9 hs10 => ?_
 refine ops_store (off := 0) (cs := [(.int .u64 0), (.int .u64 0), (.int .u64 0), (.int .u64 0), (.int .u64 0), (.int .u64 0), (.int .u64 0), (.int .u64 0), (.int .u64 0), (.int .u64 0)]) (vs := [(.int .u64 0), (.int .u64 0), (.int .u64 0), (.int .u64 0), (.int .u64 0), (.int .u64 0), (.int .u64 0), (.int .u64 0), (.int .u64 0), (.int .u64 0)]) hs10 (by kernel_rfl) (by simp) rfl (fun w12 hs13 => ?_)
 have hs14 : St B w [] w12 [blk b11 (.cells [(.int .u64 0), (.int .u64 0), (.int .u64 0), (.int .u64 0), (.int .u64 0), (.int .u64 0), (.int .u64 0), (.int .u64 0), (.int .u64 0), (.int .u64 0)].toArray 78 (0, 0)), blk b4 (.cells [(.int .i64 gw), (.int .i64 gi), (.int .i64 gb)].toArray 23 (0, 0))] := hs13
 refine zE 1 (hK5 _ _ ?_)
 refine W.seq fun K15 hK15 => ?_
 refine W.sr fun K16 hK16 => ?_
 refine zE 2 (hK16 _ _ ?_)
 refine W.cond_true true (by kernel_rfl) rfl ?_
 refine W.sr fun K17 hK17 => ?_
 refine zE 3 (hK17 _ _ ?_)
 refine W.ret (ret_seq ?_)
 have hs18 := St.tk0 hs14
 refine ret_of (.tuple #[(.pointer none), (.int .i64 2)]) (by kernel_rfl) ⟨_, ⟨rfl, rfl⟩, hs18⟩

end Go.Proofs.YtmmclabkkigiaaaDoor

set_option linter.unusedVariables false
set_option maxRecDepth 20000
set_option maxHeartbeats 8000000
namespace Go.Proofs.YtmmclabkkigiaaaDoor
open Go Go.RowKit
set_option linter.unusedSimpArgs false
set_option linter.unusedVariables false

def works13_M  : Option (Bool) :=
 need ((fmtW 1 2 9).length ≤ 17592186044415) <|
if (igetM (fmtW 1 2 9) ([]) 1 2 9 1).2 = 0 then ((bneed_M (fmtW 1 2 9) ([]) 1 2 9 1 0).bind fun r29 =>
(bneed_M (fmtW 1 2 9) ([]) 1 2 9 1 5).bind fun r34 =>
(bTake_M (fmtW 1 2 9) ([]) 1 2 9 1 5).bind fun r40 =>
(bTake_M (fmtW 1 2 9) r40.2.2 1 2 9 1 0).bind fun r48 =>
(bList_M (fmtW 1 2 9) r48.2.2 1 2 9 1).bind fun r58 =>
(bDrop_M (fmtW 1 2 9) r48.2.2 1 2 9 1 5).bind fun r66 =>
(bList_M (fmtW 1 2 9) r66.2 1 2 9 1).bind fun r76 =>
(bCut_M (fmtW 1 2 9) r66.2 1 2 9 1 0).bind fun r84 =>
if r29 = 1 then (if r34 = 2 then (if r40.2.1 = 0 then (if r40.1 = 2 then (if r48.2.1 = 0 then (if r48.1 = 3 then ((sameints_M r58 ([3, 2, 1])).bind fun r102 =>
if r102 = true then (if r66.1 = 0 then ((sameints_M r76 ([3])).bind fun r113 =>
if r113 = true then (if r84.1 = 0 then ((bList_M (fmtW 1 2 9) r84.2 1 2 9 1).bind fun r122 =>
some (decide ((r122.length : Int) = 0))) else (some false)) else (some false)) else (some false)) else (some false)) else (some false)) else (some false)) else (some false)) else (some false)) else (some false)) else (some false)) else ((some ((igetM (fmtW 1 2 9) ([]) 1 2 9 1).2)).bind fun r143 =>
some false)

theorem works13_walk   {r : Bool} (B : Nat) (w : World) (hG : 0 < B) (hT : CellsAt (some ⟨0, 0, none⟩) tab8 w) (hm : works13_M = some r) : Spec Tryd.prog 21 #[] B w [] (fun v H' => v = .bool r ∧ H' = []) := by
 refine spec_Q Tryd.func21 rfl fun hs => ?_
 unfold works13_M at hm
 refine W.sr fun K1 hK1 => ?_
 refine zE 1 (hK1 _ _ ?_)
 refine W.sr fun K2 hK2 => ?_
 refine zR 1 ?_
 refine zN [(.int .i64 0), (.int .i64 0), (.int .i64 0)] 23 hs fun b5 w3 hs4 => ?_
 refine ops_store (off := 0) (cs := [(.int .i64 0), (.int .i64 0), (.int .i64 0)]) (vs := [(.int .i64 1), (.int .i64 2), (.int .i64 9)]) hs4 (by kernel_rfl) (by simp) rfl (fun w6 hs7 => ?_)
 have hs8 : St B w [] w6 [blk b5 (.cells [(.int .i64 1), (.int .i64 2), (.int .i64 9)].toArray 23 (0, 0))] := hs7
 refine zD (hK2 _ _ ?_)
 refine W.sr fun K9 hK9 => ?_
 refine ops_R (runs_loadAgg (ad := ⟨b5, 0, none⟩) (cs := [(.int .i64 1), (.int .i64 2), (.int .i64 9)]) (by kernel_rfl) (cells_sub (hs8.heapAt 0 rfl) rfl)) ?_
 refine ops_call0 hs8 (by kernel_rfl) (format_spec (gw := 1) (gi := 2) (gb := 9) B _) ?_
 rintro _ _ w12 ⟨a10, c11, rfl, rfl⟩ hs13
 have hs14 := St.ap1 hs13
 obtain ⟨h16, hm⟩ := need_some hm
 refine ops_call0 hs14 (by kernel_rfl) (new_spec (hc := (St.kcells kU64 hs14 0 rfl)) (hn := (St.capnil kU64 hs14 0 rfl)) (hsz := h16) B _) ?_
 rintro _ _ w17 ⟨b15, rfl, rfl⟩ hs18
 have hs19 := St.ap1 hs18
 refine zE 1 (hK9 _ _ ?_)
 refine W.sr fun K20 hK20 => ?_
 refine zR 1 ?_
 refine ops_R (runs_loadAgg (ad := ⟨b5, 0, none⟩) (cs := [(.int .i64 1), (.int .i64 2), (.int .i64 9)]) (by kernel_rfl) (cells_sub (hs19.heapAt 2 rfl) rfl)) ?_
 rcases Bool.eq_false_or_eq_true (decide ((igetM (fmtW 1 2 9) ([]) 1 2 9 1).2 = 0)) with h21 | h21
 ·
  obtain ⟨h21p, hm⟩ := iY hm h21
  refine ops_call0 hs19 (by kernel_rfl) (bof_ok (gw := 1) (gi := 2) (gb := 9) (n_ := 1) (hv := (hs19.entAt 0 rfl viewA_at)) (hP := h21p) B _) ?_
  rintro _ _ w23 ⟨b22, rfl, rfl⟩ hs24
  have hs25 := St.ap1 hs24
  refine zE 5 (hK20 _ _ ?_)
  refine W.seq fun K26 hK26 => ?_
  refine W.sr fun K27 hK27 => ?_
  refine zE 6 (hK27 _ _ ?_)
  refine W.cond_false false (by kernel_rfl) rfl ?_
  refine W.skip ?_
  refine hK26 _ _ ?_
  refine W.sr fun K28 hK28 => ?_
  refine zR 1 ?_
  obtain ⟨r29, h30, hm⟩ := bind_some hm
  refine zC00 hs25 (bneed_walk (k_ := 0) (img := (fmtW 1 2 9)) (l := []) (gw := 1) (gi := 2) (gb := 9) (n_ := 1) (hmb := (hs25.heapAt 0 rfl)) (hv := (hs25.entAt 1 rfl viewA_at)) (hm := h30) B _) fun w31 hs33 => ?_
  refine zR 1 ?_
  obtain ⟨r34, h35, hm⟩ := bind_some hm
  refine zC00 hs33 (bneed_walk (k_ := 5) (img := (fmtW 1 2 9)) (l := []) (gw := 1) (gi := 2) (gb := 9) (n_ := 1) (hmb := (hs33.heapAt 0 rfl)) (hv := (hs33.entAt 1 rfl viewA_at)) (hm := h35) B _) fun w36 hs38 => ?_
  refine zE 2 (hK28 _ _ ?_)
  refine W.sr fun K39 hK39 => ?_
  refine zR 1 ?_
  obtain ⟨r40, h41, hm⟩ := bind_some hm
  have hs42 := St.f1 hs38
  have hs43 := St.f1 hs42
  refine zC22 hs43 (bTake_walk (mb := b22) (vb := b15) (k_ := 5) (img := (fmtW 1 2 9)) (l := []) (gw := 1) (gi := 2) (gb := 9) (n_ := 1) (hG := hG) (hT := (hs38.oldCells hT)) (hm := h41) B _) fun w44 hs46 => ?_
  refine zE 5 (hK39 _ _ ?_)
  refine W.sr fun K47 hK47 => ?_
  refine zR 1 ?_
  obtain ⟨r48, h49, hm⟩ := bind_some hm
  have hs50 := St.f1 hs46
  have hs51 := St.f1 hs50
  refine zC22 hs51 (bTake_walk (mb := b22) (vb := b15) (k_ := 0) (img := (fmtW 1 2 9)) (l := r40.2.2) (gw := 1) (gi := 2) (gb := 9) (n_ := 1) (hG := hG) (hT := (hs46.oldCells hT)) (hm := h49) B _) fun w52 hs54 => ?_
  refine zE 5 (hK47 _ _ ?_)
  refine W.sr fun K55 hK55 => ?_
  refine zR 1 ?_
  obtain ⟨r58, h59, hm⟩ := bind_some hm
  have hs60 := St.f1 hs54
  have hs61 := St.f1 hs60
  refine ops_call2 hs61 (by kernel_rfl) (bList_walk (mb := b22) (vb := b15) (img := (fmtW 1 2 9)) (l := r48.2.2) (gw := 1) (gi := 2) (gb := 9) (n_ := 1) (hm := h59) B _) ?_
  rintro _ _ w62 ⟨a56, c57, rfl, rfl⟩ hs63
  have hs64 := St.ap3 hs63
  refine zE 1 (hK55 _ _ ?_)
  refine W.sr fun K65 hK65 => ?_
  refine zR 1 ?_
  obtain ⟨r66, h67, hm⟩ := bind_some hm
  have hs68 := St.f2 hs64
  have hs69 := St.f2 hs68
  refine zC22 hs69 (bDrop_walk (mb := b22) (vb := b15) (k_ := 5) (img := (fmtW 1 2 9)) (l := r48.2.2) (gw := 1) (gi := 2) (gb := 9) (n_ := 1) (hm := h67) B _) fun w70 hs72 => ?_
  refine zE 1 (hK65 _ _ ?_)
  refine W.sr fun K73 hK73 => ?_
  refine zR 1 ?_
  obtain ⟨r76, h77, hm⟩ := bind_some hm
  have hs78 := St.f1 hs72
  have hs79 := St.f1 hs78
  refine ops_call2 hs79 (by kernel_rfl) (bList_walk (mb := b22) (vb := b15) (img := (fmtW 1 2 9)) (l := r66.2) (gw := 1) (gi := 2) (gb := 9) (n_ := 1) (hm := h77) B _) ?_
  rintro _ _ w80 ⟨a74, c75, rfl, rfl⟩ hs81
  have hs82 := St.ap3 hs81
  refine zE 1 (hK73 _ _ ?_)
  refine W.sr fun K83 hK83 => ?_
  refine zR 1 ?_
  obtain ⟨r84, h85, hm⟩ := bind_some hm
  have hs86 := St.f2 hs82
  have hs87 := St.f2 hs86
  refine zC22 hs87 (bCut_walk (mb := b22) (vb := b15) (f_ := 0) (img := (fmtW 1 2 9)) (l := r66.2) (gw := 1) (gi := 2) (gb := 9) (n_ := 1) (hm := h85) B _) fun w88 hs90 => ?_
  refine zE 1 (hK83 _ _ ?_)
  refine W.sr fun K91 hK91 => ?_
  refine zR 7 ?_
  rcases Bool.eq_false_or_eq_true (decide (r29 = 1)) with h92 | h92
  ·
   obtain ⟨h92p, hm⟩ := iY hm h92
   refine zS 59 h92 ?_
   refine zS 57 h92 ?_
   refine zS 58 h92 ?_
   refine zR 4 ?_
   rcases Bool.eq_false_or_eq_true (decide (r34 = 2)) with h93 | h93
   ·
    obtain ⟨h93p, hm⟩ := iY hm h93
    refine zS 63 h93 ?_
    refine zS 61 h93 ?_
    refine zS 62 h93 ?_
    refine zR 4 ?_
    rcases Bool.eq_false_or_eq_true (decide (r40.2.1 = 0)) with h94 | h94
    ·
     obtain ⟨h94p, hm⟩ := iY hm h94
     refine zS 67 h94 ?_
     refine zS 65 h94 ?_
     refine zS 66 h94 ?_
     refine zR 4 ?_
     rcases Bool.eq_false_or_eq_true (decide (r40.1 = 2)) with h95 | h95
     ·
      obtain ⟨h95p, hm⟩ := iY hm h95
      refine zS 71 h95 ?_
      refine zS 69 h95 ?_
      refine zS 70 h95 ?_
      refine zR 4 ?_
      rcases Bool.eq_false_or_eq_true (decide (r48.2.1 = 0)) with h96 | h96
      ·
       obtain ⟨h96p, hm⟩ := iY hm h96
       refine zS 75 h96 ?_
       refine zS 73 h96 ?_
       refine zS 74 h96 ?_
       refine zR 4 ?_
       rcases Bool.eq_false_or_eq_true (decide (r48.1 = 3)) with h97 | h97
       ·
        obtain ⟨h97p, hm⟩ := iY hm h97
        refine zS 79 h97 ?_
        refine zS 77 h97 ?_
        refine zS 78 h97 ?_
        refine zR 1 ?_
        refine ops_new (fun b => .slice (some ⟨b, 0, none⟩) 3 3) (.cells [(.int .i64 3), (.int .i64 2), (.int .i64 1)].toArray 3 (0, 0)) hs90 (by kernel_rfl) (fun b100 w98 hs99 => ?_)
        have hs101 : St B w [] w98 [kInt.row (some ⟨b100, 0, none⟩) 3 ([3, 2, 1]), blk b22 (.cells [(.pointer (some ⟨b15, 0, none⟩)), (.int .i64 1), (.int .i64 2), (.int .i64 9), (.int .i64 1)].toArray 85 (0, 0)), viewA (ptr b15) (fmtW 1 2 9) r84.2, kInt.row a74 c75 r76, kInt.row a56 c57 r58, kU64.row a10 c11 (fmtW 1 2 9), blk b5 (.cells [(.int .i64 1), (.int .i64 2), (.int .i64 9)].toArray 23 (0, 0))] := St.kblk kInt [3, 2, 1] hs99 rfl rfl (by simp only [List.length_cons, List.length_nil]; decide)
        obtain ⟨r102, h103, hm⟩ := bind_some hm
        refine zC00 hs101 (sameints_walk (xs := r58) (ys := [3, 2, 1]) (xc := c57) (yc := 3) (hx := (St.kcells kInt hs101 4 rfl)) (hy := (St.kcells kInt hs101 0 rfl)) (hm := h103) B _) fun w104 hs106 => ?_
        refine zR 2 ?_
        rcases Bool.eq_false_or_eq_true r102 with h107 | h107
        ·
         have h107p : r102 = true := h107
         replace hm := ite_yes hm h107p
         refine zS 84 h107 ?_
         refine zS 82 h107 ?_
         refine zS 83 h107 ?_
         refine zR 4 ?_
         rcases Bool.eq_false_or_eq_true (decide (r66.1 = 0)) with h108 | h108
         ·
          obtain ⟨h108p, hm⟩ := iY hm h108
          refine zS 88 h108 ?_
          refine zS 86 h108 ?_
          refine zS 87 h108 ?_
          refine zR 1 ?_
          refine ops_new (fun b => .slice (some ⟨b, 0, none⟩) 1 1) (.cells [(.int .i64 3)].toArray 3 (0, 0)) hs106 (by kernel_rfl) (fun b111 w109 hs110 => ?_)
          have hs112 : St B w [] w109 [kInt.row (some ⟨b111, 0, none⟩) 1 ([3]), kInt.row (some ⟨b100, 0, none⟩) 3 ([3, 2, 1]), blk b22 (.cells [(.pointer (some ⟨b15, 0, none⟩)), (.int .i64 1), (.int .i64 2), (.int .i64 9), (.int .i64 1)].toArray 85 (0, 0)), viewA (ptr b15) (fmtW 1 2 9) r84.2, kInt.row a74 c75 r76, kInt.row a56 c57 r58, kU64.row a10 c11 (fmtW 1 2 9), blk b5 (.cells [(.int .i64 1), (.int .i64 2), (.int .i64 9)].toArray 23 (0, 0))] := St.kblk kInt [3] hs110 rfl rfl (by simp only [List.length_cons, List.length_nil]; decide)
          obtain ⟨r113, h114, hm⟩ := bind_some hm
          refine zC00 hs112 (sameints_walk (xs := r76) (ys := [3]) (xc := c75) (yc := 1) (hx := (St.kcells kInt hs112 4 rfl)) (hy := (St.kcells kInt hs112 0 rfl)) (hm := h114) B _) fun w115 hs117 => ?_
          refine zR 2 ?_
          rcases Bool.eq_false_or_eq_true r113 with h118 | h118
          ·
           have h118p : r113 = true := h118
           replace hm := ite_yes hm h118p
           refine zS 93 h118 ?_
           refine zS 91 h118 ?_
           refine zS 92 h118 ?_
           refine zR 4 ?_
           rcases Bool.eq_false_or_eq_true (decide (r84.1 = 0)) with h119 | h119
           ·
            obtain ⟨h119p, hm⟩ := iY hm h119
            refine zS 97 h119 ?_
            refine zS 95 h119 ?_
            refine zS 96 h119 ?_
            refine zR 1 ?_
            obtain ⟨r122, h123, hm⟩ := bind_some hm
            have hs124 := St.f3 hs117
            have hs125 := St.f3 hs124
            refine ops_call2 hs125 (by kernel_rfl) (bList_walk (mb := b22) (vb := b15) (img := (fmtW 1 2 9)) (l := r84.2) (gw := 1) (gi := 2) (gb := 9) (n_ := 1) (hm := h123) B _) ?_
            rintro _ _ w126 ⟨a120, c121, rfl, rfl⟩ hs127
            have hs128 := St.ap3 hs127
            refine zE 4 (hK91 _ _ ?_)
            refine W.ret ?_
            obtain rfl := some_inj hm
            have hs129 := St.tk0 hs128
            refine ret_of (.bool (decide ((r122.length : Int) = 0))) (by kernel_rfl) ⟨_, ⟨rfl, rfl⟩, hs129⟩
           ·
            obtain ⟨h119p, hm⟩ := iN hm h119
            refine zS 97 h119 ?_
            refine zS 95 h119 ?_
            refine zS 96 h119 ?_
            refine zE 6 (hK91 _ _ ?_)
            refine W.ret ?_
            obtain rfl := some_inj hm
            have hs130 := St.tk0 hs117
            refine ret_of (.bool false) (by kernel_rfl) ⟨_, ⟨rfl, rfl⟩, hs130⟩
          ·
           have h118p : ¬ (r113 = true) := ne_true_of_eq_false h118
           replace hm := ite_no hm h118p
           refine zS 93 h118 ?_
           refine zS 91 h118 ?_
           refine zS 92 h118 ?_
           refine zE 10 (hK91 _ _ ?_)
           refine W.ret ?_
           obtain rfl := some_inj hm
           have hs131 := St.tk0 hs117
           refine ret_of (.bool false) (by kernel_rfl) ⟨_, ⟨rfl, rfl⟩, hs131⟩
         ·
          obtain ⟨h108p, hm⟩ := iN hm h108
          refine zS 88 h108 ?_
          refine zS 86 h108 ?_
          refine zS 87 h108 ?_
          refine zE 15 (hK91 _ _ ?_)
          refine W.ret ?_
          obtain rfl := some_inj hm
          have hs132 := St.tk0 hs106
          refine ret_of (.bool false) (by kernel_rfl) ⟨_, ⟨rfl, rfl⟩, hs132⟩
        ·
         have h107p : ¬ (r102 = true) := ne_true_of_eq_false h107
         replace hm := ite_no hm h107p
         refine zS 84 h107 ?_
         refine zS 82 h107 ?_
         refine zS 83 h107 ?_
         refine zE 19 (hK91 _ _ ?_)
         refine W.ret ?_
         obtain rfl := some_inj hm
         have hs133 := St.tk0 hs106
         refine ret_of (.bool false) (by kernel_rfl) ⟨_, ⟨rfl, rfl⟩, hs133⟩
       ·
        obtain ⟨h97p, hm⟩ := iN hm h97
        refine zS 79 h97 ?_
        refine zS 77 h97 ?_
        refine zS 78 h97 ?_
        refine zE 24 (hK91 _ _ ?_)
        refine W.ret ?_
        obtain rfl := some_inj hm
        have hs134 := St.tk0 hs90
        refine ret_of (.bool false) (by kernel_rfl) ⟨_, ⟨rfl, rfl⟩, hs134⟩
      ·
       obtain ⟨h96p, hm⟩ := iN hm h96
       refine zS 75 h96 ?_
       refine zS 73 h96 ?_
       refine zS 74 h96 ?_
       refine zE 28 (hK91 _ _ ?_)
       refine W.ret ?_
       obtain rfl := some_inj hm
       have hs135 := St.tk0 hs90
       refine ret_of (.bool false) (by kernel_rfl) ⟨_, ⟨rfl, rfl⟩, hs135⟩
     ·
      obtain ⟨h95p, hm⟩ := iN hm h95
      refine zS 71 h95 ?_
      refine zS 69 h95 ?_
      refine zS 70 h95 ?_
      refine zE 32 (hK91 _ _ ?_)
      refine W.ret ?_
      obtain rfl := some_inj hm
      have hs136 := St.tk0 hs90
      refine ret_of (.bool false) (by kernel_rfl) ⟨_, ⟨rfl, rfl⟩, hs136⟩
    ·
     obtain ⟨h94p, hm⟩ := iN hm h94
     refine zS 67 h94 ?_
     refine zS 65 h94 ?_
     refine zS 66 h94 ?_
     refine zE 36 (hK91 _ _ ?_)
     refine W.ret ?_
     obtain rfl := some_inj hm
     have hs137 := St.tk0 hs90
     refine ret_of (.bool false) (by kernel_rfl) ⟨_, ⟨rfl, rfl⟩, hs137⟩
   ·
    obtain ⟨h93p, hm⟩ := iN hm h93
    refine zS 63 h93 ?_
    refine zS 61 h93 ?_
    refine zS 62 h93 ?_
    refine zE 40 (hK91 _ _ ?_)
    refine W.ret ?_
    obtain rfl := some_inj hm
    have hs138 := St.tk0 hs90
    refine ret_of (.bool false) (by kernel_rfl) ⟨_, ⟨rfl, rfl⟩, hs138⟩
  ·
   obtain ⟨h92p, hm⟩ := iN hm h92
   refine zS 59 h92 ?_
   refine zS 57 h92 ?_
   refine zS 58 h92 ?_
   refine zE 44 (hK91 _ _ ?_)
   refine W.ret ?_
   obtain rfl := some_inj hm
   have hs139 := St.tk0 hs90
   refine ret_of (.bool false) (by kernel_rfl) ⟨_, ⟨rfl, rfl⟩, hs139⟩
 ·
  obtain ⟨h21p, hm⟩ := iN hm h21
  refine zC00 hs19 (bof_err (gw := 1) (gi := 2) (gb := 9) (n_ := 1) (hv := (hs19.entAt 0 rfl viewA_at)) (hN := h21p) B _) fun w140 hs142 => ?_
  refine zR 5 ?_
  obtain ⟨r143, h144, hm⟩ := bind_some hm
  replace h144 := some_inj h144
  refine ops_set 4 (v := .int .i64 r143) (Eq.trans (by kernel_rfl) (congrArg (Value.int .i64) h144)) ?_
  refine zD (hK20 _ _ ?_)
  refine W.seq fun K145 hK145 => ?_
  refine W.sr fun K146 hK146 => ?_
  refine zE 6 (hK146 _ _ ?_)
  refine W.cond_true true (by kernel_rfl) rfl ?_
  refine W.sr fun K147 hK147 => ?_
  refine zE 1 (hK147 _ _ ?_)
  refine W.ret (ret_seq ?_)
  obtain rfl := some_inj hm
  have hs148 := St.tk0 hs142
  refine ret_of (.bool false) (by kernel_rfl) ⟨_, ⟨rfl, rfl⟩, hs148⟩

end Go.Proofs.YtmmclabkkigiaaaDoor

namespace Go.Proofs.YtmmclabkkigiaaaDoor
open Go Go.RowKit
set_option maxRecDepth 100000 in
set_option maxHeartbeats 4000000 in
theorem works13_eq : works13_M = some true := by decide +kernel
end Go.Proofs.YtmmclabkkigiaaaDoor

namespace Go.Proofs.YtmmclabkkigiaaaDoor
open Go Go.RowKit
set_option linter.unusedVariables false
set_option linter.unusedSimpArgs false

section
variable {gi gb : Int} {img : List Int} {l : List (Int × Int)} {n : Int} {O : Nat → Prop} {hd : Hd} {f : Nat → Int} {c : Int}
theorem Dk.flat (h : Dk gi gb img l) : Dk gi gb (vflat img l) [] := by
  have hl := vflat_length img l
  have := h.g
  have := h.len
  exact ⟨h.may, by rw [hl]; exact h.len, VR.nil (u64_flat h.ok h.vr), VOk.nil (by omega)⟩
theorem Mp.flat (h : Mp gi gb img l n O hd f c) : Mp gi gb (vflat img l) [] n O hd f c := by
  have e := fun k => vget_flat h.dk.ok k
  refine ⟨h.dk.flat, h.nr, h.hd, ?_, ?_, ?_, ?_, ?_, fun k hk => ?_, ?_, fun k k1 k2 => ?_, h.rf, h.rc, h.inj, h.fc, fun b hb => ?_, h.od⟩
  · rw [e]; exact h.w0
  · rw [e]; exact h.w1
  · rw [e]; exact h.w2
  · rw [e]; exact h.w3
  · rw [e]; exact h.w9
  · rw [e]; exact h.wd k hk
  · rw [e]; exact h.w8
  · rw [e]; exact h.we k k1 k2
  · rw [mbits_flat h.dk.ok]; exact h.bits b hb
theorem Dk.start (hm : May 1 gi gb) (hl : (img.length : Int) = 488 + 16 * gi + 8 * gb) (hu : ∀ x ∈ img, U64 x) : Dk gi gb img [] := by
  have := may_out hm
  exact ⟨hm, hl, VR.nil hu, VOk.nil (by omega)⟩
theorem Dk.fmt (hm : May 1 gi gb) : Dk gi gb (fmtW 1 gi gb) [] := by
  have := fmtW_len 1 gi gb
  have := words_may hm
  have := may_out hm
  exact Dk.start hm (by omega) fmtW_u64
theorem Mp.fmt (hm : May 1 gi gb) : Mp gi gb (fmtW 1 gi gb) [] 1 (fun _ => False) ⟨2, 1, 0, 0, 0⟩ (fun _ => 0) 0 := by
  have hm_ := may_out hm
  have hw := words_may hm
  have w : ∀ z : Int, 0 ≤ z → z < 488 + 16 * gi + 8 * gb → 488 ≤ z → vget (fmtW 1 gi gb) [] z = if z = 505 then 1 else if z = 504 then 2 else 0 := fun z h0 h1 h2 => by
    rw [fmt_vget hm (by omega)]
    simp only [Int.mul_one, Int.reduceAdd, Int.reduceMul]
    rw [if_neg (show ¬ z = 480 by omega), if_neg (show ¬ z = 472 by omega), if_neg (show ¬ z = 3 by omega), if_neg (show ¬ z = 2 by omega), if_neg (show ¬ z = 1 by omega), if_neg (show ¬ z = 0 by omega)]
  refine ⟨Dk.fmt hm, by omega, ⟨show (0 : Int) < gi by omega, ⟨show (1 : Int) ≤ 65536 by omega, show (0 : Int) ≤ 16 by omega, show (0 : Int) ≤ 768 by omega⟩, .inr ⟨rfl, rfl⟩⟩, ?_, ?_, ?_, ?_, ?_, fun k hk => ?_, ?_, fun k _ _ => by rw [if_pos rfl], fun k _ => ⟨Int.le_refl 0, show (0 : Int) < gb by omega⟩, by omega, fun j k _ _ h => absurd rfl h, fun k _ h => absurd rfl h, fun b hb => ?_, fun b hb => hb.elim⟩
  · rw [w _ (by omega) (by omega) (by omega), if_neg (by omega), if_pos (by omega)]
  · rw [w _ (by omega) (by omega) (by omega), if_pos (by omega)]
  · rw [w _ (by omega) (by omega) (by omega), if_neg (by omega), if_neg (by omega)]
  · rw [w _ (by omega) (by omega) (by omega), if_neg (by omega), if_neg (by omega)]
  · rw [w _ (by omega) (by omega) (by omega), if_neg (by omega), if_neg (by omega)]
  · rw [w _ (by omega) (by omega) (by omega), if_neg (by omega), if_neg (by omega)]
  · rw [w _ (by omega) (by omega) (by omega), if_neg (by omega), if_neg (by omega)]
  · have eb := fmt_bbits hm hb
    simp only [Int.reduceMul, Int.reduceAdd] at eb
    rw [eb, decide_eq_true_iff]
    constructor
    · exact .inl
    · rintro (q | ⟨_, _, q⟩ | q | q)
      · exact q
      · omega
      · omega
      · exact q.elim
def OwnP (f : Nat → Int) (c : Int) (b : Nat) : Prop := b ≠ 0 ∧ ((∃ k, k < 12 ∧ f k = (b : Int)) ∨ c = (b : Int))
theorem Mp.other {m : List (Int × Int)} {n2 : Int} {hd2 : Hd} {f2 f' : Nat → Int} {c2 c' : Int} {O2 : Nat → Prop} (h2 : Mp gi gb img l n2 O2 hd2 f2 c2) (h1 : Mp gi gb img m n (OwnP f2 c2) hd f' c')
    (hz : ∀ z, (488 + 16 * n2 ≤ z ∧ z ≤ 497 + 16 * n2) ∨ (c2 ≠ 0 ∧ 488 + 16 * gi + 8 * c2 ≤ z ∧ z < 488 + 16 * gi + 8 * c2 + 8) → vget img m z = vget img l z) : Mp gi gb img m n2 (OwnP f' c') hd2 f2 c2 := by
  have hnr := h2.nr
  refine ⟨h1.dk, h2.nr, h2.hd, ?_, ?_, ?_, ?_, ?_, fun k hk => ?_, ?_, fun k k1 k2 => ?_, h2.rf, h2.rc, h2.inj, h2.fc, fun b hb => ?_, fun b hb => ?_⟩
  · rw [hz _ (.inl (by omega))]; exact h2.w0
  · rw [hz _ (.inl (by omega))]; exact h2.w1
  · rw [hz _ (.inl (by omega))]; exact h2.w2
  · rw [hz _ (.inl (by omega))]; exact h2.w3
  · rw [hz _ (.inl (by omega))]; exact h2.w9
  · rw [hz _ (.inl (by omega))]; exact h2.wd k hk
  · rw [hz _ (.inl (by omega))]; exact h2.w8
  · rw [h2.we k k1 k2]
    by_cases hc : c2 = 0
    · rw [if_pos hc, if_pos hc]
    · rw [if_neg hc, if_neg hc, hz _ (.inr ⟨hc, by omega⟩)]
  · rw [h1.bits b hb]
    unfold OwnP
    constructor
    · rintro (q | q | q | q)
      · exact .inl q
      · by_cases e : b = 0
        · exact .inl e
        · exact .inr (.inr (.inr ⟨e, .inl q⟩))
      · by_cases e : b = 0
        · exact .inl e
        · exact .inr (.inr (.inr ⟨e, .inr q⟩))
      · rcases q.2 with q | q
        · exact .inr (.inl q)
        · exact .inr (.inr (.inl q))
    · rintro (q | q | q | q)
      · exact .inl q
      · by_cases e : b = 0
        · exact .inl e
        · exact .inr (.inr (.inr ⟨e, .inl q⟩))
      · by_cases e : b = 0
        · exact .inl e
        · exact .inr (.inr (.inr ⟨e, .inr q⟩))
      · rcases q.2 with q | q
        · exact .inr (.inl q)
        · exact .inr (.inr (.inl q))
  · obtain ⟨e, q⟩ := hb
    have hin : (b : Int) < gb := by
      have hrc := h1.rc
      rcases q with ⟨k, hk, q⟩ | q
      · have := h1.rf k hk; omega
      · omega
    have hno : ¬ OwnP f2 c2 b := fun o => by
      obtain ⟨_, _, o3, o4⟩ := h1.od b o
      rcases q with ⟨k, hk, q⟩ | q
      · exact o3 k hk q
      · exact o4 q
    exact ⟨by omega, hin, fun k hk e2 => hno ⟨e, .inl ⟨k, hk, e2⟩⟩, fun e2 => hno ⟨e, .inr e2⟩⟩
theorem aused_true {b : Int} (h : Dk gi gb img l) (hb : 0 ≤ b ∧ b < gb) (hu : mbits img l 480 b.toNat = true) : aused_M img l gb 480 b = some true := by
  have hg := h.g
  unfold aused_M
  refine bind_of (mget_ok h.vr (by omega) (by omega)) ?_
  rw [hu, decide_eq_true hb]
  rfl
theorem Mp.free (h : Mp gi gb img l n O hd f c) : afree_M img l gi gb 472 480 = some (gi - (cnt (mbits img l 472) gi.toNat : Nat), gb - (cnt (mbits img l 480) gb.toNat : Nat)) := by
  have hg := h.dk.g
  have := afree_ok (img := img) (l := l) (gi := gi) (gb := gb) (ia := 472) (ba := 480) h.dk.vr (by omega) (by omega) (by omega) (by omega)
  unfold freeF at this
  exact this
theorem works13_stop : Ok (· = true) ((works13_M).bind fun r => some r) := by
  rw [works13_eq]
  exact Ok.some rfl
end
end Go.Proofs.YtmmclabkkigiaaaDoor

namespace Go.Proofs.YtmmclabkkigiaaaDoor
open Go Go.RowKit
set_option linter.unusedSimpArgs false
set_option linter.unusedVariables false

structure TSt13 where
  c0 : Int
  c1 : Int
  c2 : Bool

def dSt13 : TSt13 := (⟨0, 0, false⟩ : TSt13)
def kSt13 : Kind TSt13 := ⟨46, 3, fun x => [.int .u8 x.c0, .int .i64 x.c1, .bool x.c2], by decide, fun _ => rfl, fun _ => rfl⟩
def good_St13 (x : TSt13) : Prop := (0 ≤ x.c0 ∧ x.c0 ≤ 255) ∧ (-9223372036854775808 ≤ x.c1 ∧ x.c1 ≤ 9223372036854775807)

end Go.Proofs.YtmmclabkkigiaaaDoor

namespace Go.Proofs.YtmmclabkkigiaaaDoor
open Go Go.RowKit
set_option linter.unusedSimpArgs false
set_option linter.unusedVariables false



structure TGeo where
  c0 : Int
  c1 : Int
  c2 : Int

def kGeo : Kind TGeo := ⟨23, 3, fun x => [.int .i64 x.c0, .int .i64 x.c1, .int .i64 x.c2], by decide, fun _ => rfl, fun _ => rfl⟩
def good_Geo (x : TGeo) : Prop := (-9223372036854775808 ≤ x.c0 ∧ x.c0 ≤ 9223372036854775807) ∧ (-9223372036854775808 ≤ x.c1 ∧ x.c1 ≤ 9223372036854775807) ∧ (-9223372036854775808 ≤ x.c2 ∧ x.c2 ≤ 9223372036854775807)

end Go.Proofs.YtmmclabkkigiaaaDoor

namespace Go.Proofs.YtmmclabkkigiaaaDoor
open Go.ChangeShapes Go.WideShapes Go.ChangeAt Go.RowKit Go.Deep

inductive Leaf where
  | int (k : IntKind)
  | bool

def LeafOk : Leaf → Value → Prop
  | .int k, v => ∃ z, v = .int k z ∧ (Lit.int k z).wf = true
  | .bool, v => ∃ b, v = .bool b

def LeavesOk : List Leaf → List Value → Prop
  | [], [] => True
  | k :: ks, v :: vs => LeafOk k v ∧ LeavesOk ks vs
  | _, _ => False

theorem LeavesOk.append : ∀ {ks ks' : List Leaf} {vs vs' : List Value}, LeavesOk ks vs → LeavesOk ks' vs' → LeavesOk (ks ++ ks') (vs ++ vs')
  | [], _, [], _, _, h => h
  | _ :: _, _, _ :: _, _, h, h' => ⟨h.1, LeavesOk.append h.2 h'⟩

def leavesF (P : Program) (lv : TypeId → Option (List Leaf)) : Nat → List Field → Option (List Leaf)
  | _, [] => some []
  | off, f :: fs => match lv f.type with
    | some l => if f.offset = off ∧ P.cellsOf f.type = l.length then (leavesF P lv (off + l.length) fs).map (l ++ ·) else none
    | none => none

def leaves (P : Program) : Nat → TypeId → Option (List Leaf)
  | 0, _ => none
  | m + 1, t => match P.underlying t with
    | some (.int k) => some [.int k]
    | some .bool => some [.bool]
    | some (.struct fs) => match leavesF P (leaves P m) 0 fs.toList with
      | some ks => if P.cellsOf t = ks.length then some ks else none
      | none => none
    | some (.array n e) => match leaves P m e with
      | some l => if P.cellsOf e = l.length ∧ P.cellsOf t = n * l.length then some ((List.replicate n l).flatten) else none
      | none => none
    | _ => none

section
variable {H : Type} {enc : TypeId × Value → H} {P : Program} {w : World} {base : Nat} {sp : Nat → Bool} {held : Bool}

theorem leavesF_ok {lv : TypeId → Option (List Leaf)} (hlv : ∀ (t : TypeId) (ks : List Leaf) (n : Nat) (cs : List Value) (y : DataW H × List MemPlace), lv t = some ks → DataW.trod enc P w base sp held n t cs = some y → LeavesOk ks cs) {cs : List Value} :
    ∀ (fs : List Field) (off : Nat) (ks : List Leaf), leavesF P lv off fs = some ks → (∀ (i : Nat) (f : Field), fs[i]? = some f → ∃ n y, DataW.trod enc P w base sp held n f.type ((cs.drop f.offset).take (P.cellsOf f.type)) = some y) →
      LeavesOk ks ((cs.drop off).take ks.length)
  | [], off, ks, h, _ => by
    simp only [leavesF, Option.some.injEq] at h
    subst h
    simp [LeavesOk]
  | f :: fs, off, ks, h, ht => by
    unfold leavesF at h
    split at h
    · rename_i l hl
      split at h
      · rename_i hc
        simp only [Option.map_eq_some_iff] at h
        obtain ⟨ks', hk', rfl⟩ := h
        obtain ⟨n, y, hy⟩ := ht 0 f rfl
        rw [hc.1, hc.2] at hy
        have h1 := hlv _ _ _ _ _ hl hy
        have h2 := leavesF_ok hlv fs (off + l.length) ks' hk' (fun i g hg => ht (i + 1) g (by simpa using hg))
        have e : (cs.drop off).take (l ++ ks').length = (cs.drop off).take l.length ++ (cs.drop (off + l.length)).take ks'.length := by
          rw [List.length_append, List.take_add, List.drop_drop]
        rw [e]
        exact h1.append h2
      · cases h
    · cases h

theorem leavesA_ok {l : List Leaf} {cs : List Value} : ∀ n : Nat, (∀ i, i < n → LeavesOk l ((cs.drop (i * l.length)).take l.length)) → LeavesOk ((List.replicate n l).flatten) (cs.take (n * l.length))
  | 0, _ => by simp [LeavesOk]
  | n + 1, h => by
    have h1 := leavesA_ok n (fun i hi => h i (by omega))
    have h2 := h n (by omega)
    have e1 : (List.replicate (n + 1) l).flatten = (List.replicate n l).flatten ++ l := by
      rw [List.replicate_succ', List.flatten_append]
      simp
    have e2 : cs.take ((n + 1) * l.length) = cs.take (n * l.length) ++ (cs.drop (n * l.length)).take l.length := by
      rw [Nat.add_mul, Nat.one_mul, List.take_add]
    rw [e1, e2]
    exact h1.append h2

theorem leaves_ok : ∀ (m : Nat) (t : TypeId) (ks : List Leaf) (n : Nat) (cs : List Value) (y : DataW H × List MemPlace), leaves P m t = some ks → DataW.trod enc P w base sp held n t cs = some y → LeavesOk ks cs
  | 0, t, ks, n, cs, y, h, _ => by simp [leaves] at h
  | m + 1, t, ks, n, cs, y, h, hy => by
    unfold leaves at h
    split at h
    · rename_i k hu
      cases h
      obtain ⟨z, rfl, _, hz⟩ := DataW.trod_int hu hy
      exact ⟨⟨z, rfl, hz⟩, trivial⟩
    · rename_i hu
      cases h
      cases n with
      | zero => simp [DataW.trod] at hy
      | succ n =>
        unfold DataW.trod at hy
        rw [hu] at hy
        split at hy <;> simp_all [LeavesOk, LeafOk]
    · rename_i fs hu
      split at h
      · rename_i ks' hks
        split at h
        · rename_i hc
          cases h
          obtain ⟨xs, n', rfl, _, hlen, hxl, hf⟩ := DataW.trod_struct hu hy
          have h1 := leavesF_ok (cs := cs) (leaves_ok m) fs.toList 0 _ hks (fun i f hi => by
            have hi' : fs[i]? = some f := by simpa using hi
            have := hf i f hi'
            have hil : i < xs.length := by rw [hxl]; exact (Array.getElem?_eq_some_iff.1 hi').1
            rw [List.getElem?_eq_getElem hil] at this
            exact ⟨_, _, this⟩)
          simpa [← hc, ← hlen] using h1
        · cases h
      · cases h
    · rename_i k e hu
      split at h
      · rename_i l hl
        split at h
        · rename_i hc
          cases h
          obtain ⟨xs, n', rfl, _, hlen, hxl, hf⟩ := DataW.trod_array hu hy
          have h1 := leavesA_ok (l := l) (cs := cs) k (fun i hi => by
            have := hf i hi
            have hil : i < xs.length := by rw [hxl]; exact hi
            rw [List.getElem?_eq_getElem hil, hc.1] at this
            exact leaves_ok m _ _ _ _ _ hl this)
          simpa [← hc.2, ← hlen] using h1
        · cases h
      · cases h
    · cases h

theorem open_agg {α : Type} (K : Kind α) (good : α → Prop) {fs : Array Field} {ks : List Leaf} (m : Nat) (hs : P.underlying K.e = some (.struct fs)) (hl : leaves P m K.e = some ks) (hread : ∀ cs, LeavesOk ks cs → ∃ x, cs = K.elem x ∧ good x)
    {r : Reach} {b0 : Nat} {v : Value} {d : DataW H} {ps : List MemPlace} (hval : Value.okWide P w r b0 K.e v) (h : DataW.Trod enc P w base sp held K.e v d ps) : ∃ x, v = .agg (K.elem x).toArray ∧ good x := by
  obtain ⟨cs, rfl, _⟩ := okWide_struct hs hval
  obtain ⟨fuel, h⟩ := h
  have h' : DataW.trod enc P w base sp held fuel K.e cs.toList = some (d, ps) := h
  obtain ⟨x, hx, hg⟩ := hread _ (leaves_ok m _ _ _ _ _ hl h')
  exact ⟨x, by rw [← hx], hg⟩
end
theorem leaves_cons {k : Leaf} {ks : List Leaf} : ∀ {cs : List Value}, LeavesOk (k :: ks) cs → ∃ v vs, cs = v :: vs ∧ LeafOk k v ∧ LeavesOk ks vs
  | v :: vs, h => ⟨v, vs, rfl, h.1, h.2⟩
  | [], h => h.elim
theorem leaves_nil : ∀ {cs : List Value}, LeavesOk [] cs → cs = []
  | [], _ => rfl
  | _ :: _, h => h.elim
end Go.Proofs.YtmmclabkkigiaaaDoor

namespace Go.Proofs.YtmmclabkkigiaaaDoor
open Go.ChangeShapes Go.WideShapes Go.ChangeAt Go.RowKit Go.Deep
set_option linter.unusedVariables false

theorem leaf_St13 (cs0 : List Value) (e0 : LeavesOk [.int .u8, .int .i64, .bool] cs0) : ∃ x, cs0 = kSt13.elem x ∧ good_St13 x := by
  obtain ⟨_, cs1, rfl, ⟨z0, rfl, b0⟩, e1⟩ := leaves_cons e0
  obtain ⟨_, cs2, rfl, ⟨z1, rfl, b1⟩, e2⟩ := leaves_cons e1
  obtain ⟨_, cs3, rfl, ⟨z2, rfl⟩, e3⟩ := leaves_cons e2
  obtain rfl := leaves_nil e3
  simp [Lit.wf, IntKind.min, IntKind.max, IntKind.signed, IntKind.bits] at b0 b1
  refine ⟨⟨z0, z1, z2⟩, rfl, ?_⟩
  simp only [good_St13]
  omega
theorem read_St13 {H : Type} {enc : TypeId × Value → H} {w : World} {base : Nat} {sp : Nat → Bool} (n : Nat) (cs : List Value) (y : DataW H × List MemPlace) (_ : cs.length = kSt13.size) (h : DataW.trod enc Tryd.prog w base sp true n kSt13.e cs = some y) :
    ∃ x, cs = kSt13.elem x ∧ good_St13 x := leaf_St13 cs (leaves_ok (P := Tryd.prog) 6 kSt13.e [.int .u8, .int .i64, .bool] _ _ _ (by kernel_rfl) h)

theorem leaf_Geo (cs0 : List Value) (e0 : LeavesOk [.int .i64, .int .i64, .int .i64] cs0) : ∃ x, cs0 = kGeo.elem x ∧ good_Geo x := by
  obtain ⟨_, cs1, rfl, ⟨z0, rfl, b0⟩, e1⟩ := leaves_cons e0
  obtain ⟨_, cs2, rfl, ⟨z1, rfl, b1⟩, e2⟩ := leaves_cons e1
  obtain ⟨_, cs3, rfl, ⟨z2, rfl, b2⟩, e3⟩ := leaves_cons e2
  obtain rfl := leaves_nil e3
  simp [Lit.wf, IntKind.min, IntKind.max, IntKind.signed, IntKind.bits] at b0 b1 b2
  refine ⟨⟨z0, z1, z2⟩, rfl, ?_⟩
  simp only [good_Geo]
  omega
end Go.Proofs.YtmmclabkkigiaaaDoor

namespace Go.Proofs.YtmmclabkkigiaaaDoor
open Go
set_option maxRecDepth 100000 in
theorem seat_make : (Tryd.prog.make == some Rows.blocksNilRow.make) = true := by kernel_rfl
end Go.Proofs.YtmmclabkkigiaaaDoor

namespace Go.Proofs.YtmmclabkkigiaaaDoor
open Go
set_option maxRecDepth 100000 in
theorem seat_lifted : (Rows.blocksNilRow.lifted == Tryd.prog.liftsFinal) = true := by kernel_rfl
end Go.Proofs.YtmmclabkkigiaaaDoor

namespace Go.Proofs.YtmmclabkkigiaaaDoor
open Go
set_option maxRecDepth 100000 in
theorem seat_enter : Tryd.prog.mayEnter = true := by kernel_rfl
end Go.Proofs.YtmmclabkkigiaaaDoor

namespace Go.Proofs.YtmmclabkkigiaaaDoor
open Go Go.RowKit
set_option linter.unusedSimpArgs false
set_option linter.unusedVariables false

set_option maxRecDepth 100000 in
theorem seat_main : Tryd.prog.mainIs = some (true, "b301206068d09c589c049a84439cfac397fcf30fe99f46c51841731a95e690b1".toList) := by kernel_rfl
end Go.Proofs.YtmmclabkkigiaaaDoor

namespace Go.Proofs.YtmmclabkkigiaaaDoor
open Go Go.RowKit
set_option linter.unusedSimpArgs false
set_option linter.unusedVariables false

set_option maxRecDepth 100000 in
theorem seat_looks : false = Tryd.prog.looks [] := by kernel_rfl
end Go.Proofs.YtmmclabkkigiaaaDoor
