/- Texts, one behind the other: PBb, PBc, F6i, F3b, PBd, Sv, Sx, Rb, Rn, Sy, Sz, A4g, A4h, A4e, A4f, F4f. -/
import Derived.Laws.BytesArg
import Derived.Lib.ConvBytes
import Derived.Laws.AppendOwn
import Derived.Laws.Concat
import Derived.Test.YtmmclabkkigiaaaDoorQDN4
set_option linter.unusedVariables false
set_option linter.unusedSimpArgs false
namespace Go.Proofs.YtmmclabkkigiaaaDoor
open Go Go.RowKit
set_option linter.unusedVariables false
set_option linter.unusedSimpArgs false

def upd (f : Nat → Int) (k : Nat) (x : Int) : Nat → Int := fun j => if j = k then x else f j
theorem upd_at (f : Nat → Int) (k : Nat) (x : Int) : upd f k x k = x := if_pos rfl
theorem upd_ne {f : Nat → Int} {k j : Nat} {x : Int} (h : j ≠ k) : upd f k x j = f j := if_neg h
section
variable {gi gb : Int} {img : List Int} {l : List (Int × Int)} {n : Int} {O : Nat → Prop} {hd : Hd} {f : Nat → Int} {c : Int}
theorem Mp.hasWord (h : Mp gi gb img l n O hd f c) {k : Nat} (hk : k < 12) (h0 : f k ≠ 0) : k < 4 ∨ c ≠ 0 := by
  rcases Nat.lt_or_ge k 4 with h4 | h4
  · exact .inl h4
  · refine .inr fun hc => h0 ?_
    rw [h.we k h4 hk, if_pos hc]
theorem Mp.used (h : Mp gi gb img l n O hd f c) {k : Nat} (hk : k < 12) (h0 : f k ≠ 0) : mbits img l 480 (f k).toNat = true := by
  have hr := h.rf k hk
  have hg := h.dk.g
  exact (h.bits _ (by omega)).2 (.inr (.inl ⟨k, hk, by omega⟩))
theorem Mp.turn (h : Mp gi gb img l n O hd f c) {m : List (Int × Int)} {k : Nat} (hk : k < 12) (hc : k < 4 ∨ c ≠ 0) {x : Int} (hx : 0 ≤ x ∧ x < gb) (hdk : Dk gi gb img m)
    (hw : ∀ z, ¬ (480 ≤ z ∧ z < 488) → (z < 488 + 16 * gi ∨ (c ≠ 0 ∧ 488 + 16 * gi + 8 * c ≤ z ∧ z < 488 + 16 * gi + 8 * c + 8)) → vget img m z = if z = wordAt gi n c k then x else vget img l z)
    (hinj : ∀ j, j < 12 → j ≠ k → x ≠ 0 → f j ≠ x) (hxc : x ≠ 0 → c ≠ x) (hbits : ∀ b : Nat, b < 512 → (mbits img m 480 b = true ↔ b = 0 ∨ (∃ j, j < 12 ∧ upd f k x j = (b : Int)) ∨ c = (b : Int) ∨ O b)) (hox : ∀ b : Nat, O b → x ≠ (b : Int)) :
    Mp gi gb img m n O hd (upd f k x) c := by
  have hg := h.dk.g
  have hnr := h.nr
  have hrc := h.rc
  have hwa : wordAt gi n c k = if k < 4 then 492 + 16 * n + (k : Int) else 484 + 16 * gi + 8 * c + (k : Int) := rfl
  have hne : ∀ z, (488 + 16 * n ≤ z ∧ z < 492 + 16 * n) ∨ z = 496 + 16 * n ∨ z = 497 + 16 * n → vget img m z = vget img l z := by
    intro z hz
    rw [hw z (by omega) (.inl (by omega)), if_neg]
    rw [hwa]
    by_cases hk4 : k < 4
    · rw [if_pos hk4]; omega
    · rw [if_neg hk4]; omega
  refine ⟨hdk, hnr, h.hd, ?_, ?_, ?_, ?_, ?_, fun j hj => ?_, ?_, fun j hj1 hj2 => ?_, fun j hj => ?_, hrc, fun i j hi hj h1 h2 => ?_, fun j hj hc0 => ?_, hbits, fun b hb => ?_⟩
  · rw [hne _ (by omega)]; exact h.w0
  · rw [hne _ (by omega)]; exact h.w1
  · rw [hne _ (by omega)]; exact h.w2
  · rw [hne _ (by omega)]; exact h.w3
  · rw [hne _ (by omega)]; exact h.w9
  · rw [hw _ (by omega) (.inl (by omega)), hwa]
    by_cases e : j = k
    · subst e
      rw [upd_at, if_pos hj, if_pos rfl]
    · rw [upd_ne e]
      by_cases hk4 : k < 4
      · rw [if_pos hk4, if_neg (by omega)]
        exact h.wd j hj
      · rw [if_neg hk4, if_neg (by omega)]
        exact h.wd j hj
  · rw [hne _ (by omega)]; exact h.w8
  · by_cases hc0 : c = 0
    · rw [if_pos hc0]
      have hk4 : k < 4 := by omega
      rw [upd_ne (by omega), h.we j hj1 hj2, if_pos hc0]
    · rw [if_neg hc0, hw _ (by omega) (.inr ⟨hc0, by omega⟩), hwa]
      by_cases e : j = k
      · subst e
        rw [upd_at, if_neg (show ¬ j < 4 by omega), if_pos rfl]
      · rw [upd_ne e, h.we j hj1 hj2, if_neg hc0]
        by_cases hk4 : k < 4
        · rw [if_pos hk4, if_neg (by omega)]
        · rw [if_neg hk4, if_neg (by omega)]
  · unfold upd
    split
    · exact hx
    · exact h.rf j hj
  · unfold upd at h1 h2
    by_cases e1 : i = k
    · by_cases e2 : j = k
      · omega
      · rw [if_pos e1] at h1 h2
        rw [if_neg e2] at h2
        exact absurd h2.symm (hinj j hj e2 h1)
    · rw [if_neg e1] at h1 h2
      by_cases e2 : j = k
      · rw [if_pos e2] at h2
        rw [h2] at h1
        exact absurd h2 (hinj i hi e1 h1)
      · rw [if_neg e2] at h2
        exact h.inj i j hi hj h1 h2
  · unfold upd
    split
    · intro e
      exact hxc (by omega) e.symm
    · exact h.fc j hj hc0
  · obtain ⟨o1, o2, o3, o4⟩ := h.od b hb
    refine ⟨o1, o2, fun j hj => ?_, o4⟩
    unfold upd
    split
    · exact hox b hb
    · exact o3 j hj
theorem Mp.giveW (h : Mp gi gb img l n O hd f c) {k : Nat} (hk : k < 12) (h0 : f k ≠ 0) (hl : l.length + 2 ≤ 96) :
    ∃ m, bgive_M img l 1 gi gb (wordAt gi n c k) (f k) = some (0, m) ∧ m.length ≤ l.length + 2 ∧ Mp gi gb img m n O hd (upd f k 0) c ∧ ∀ z, ¬ (480 ≤ z ∧ z < 488) → z ≠ wordAt gi n c k → vget img m z = vget img l z := by
  have hg := h.dk.g
  have hr := h.rf k hk
  obtain ⟨m, g1, g2, g3, g4, g5⟩ := h.dk.give (b := f k) (by omega) (h.used hk h0) (h.wordIn hk) hl
  refine ⟨m, g1, g3, h.turn hk (h.hasWord hk h0) (x := 0) (by omega) g2 (fun z hz _ => g4 z hz) (by omega) (by omega) (fun b hb => ?_) (fun b hb => by have := h.od b hb; omega), fun z hz hz2 => by rw [g4 z hz, if_neg hz2]⟩
  rw [g5 b hb]
  by_cases e : b = (f k).toNat
  · rw [if_pos e]
    refine ⟨fun q => absurd q (by decide), fun q => ?_⟩
    exfalso
    rcases q with q | ⟨j, hj, q⟩ | q | q
    · omega
    · unfold upd at q
      by_cases ej : j = k
      · rw [if_pos ej] at q; omega
      · rw [if_neg ej] at q
        exact ej (h.inj j k hj hk (by omega) (by omega))
    · exact h.fc k hk (by omega) (by omega)
    · exact (h.od b q).2.2.1 k hk (by omega)
  · rw [if_neg e, h.bits b hb]
    constructor
    · rintro (q | ⟨j, hj, q⟩ | q | q)
      · exact .inl q
      · by_cases ej : j = k
        · subst ej; omega
        · exact .inr (.inl ⟨j, hj, by rw [upd_ne ej]; exact q⟩)
      · exact .inr (.inr (.inl q))
      · exact .inr (.inr (.inr q))
    · rintro (q | ⟨j, hj, q⟩ | q | q)
      · exact .inl q
      · by_cases ej : j = k
        · subst ej; rw [upd_at] at q; exact .inl (by omega)
        · rw [upd_ne ej] at q; exact .inr (.inl ⟨j, hj, q⟩)
      · exact .inr (.inr (.inl q))
      · exact .inr (.inr (.inr q))
theorem Mp.giveC (h : Mp gi gb img l n O hd f c) (hc : c ≠ 0) (hz : ∀ k, 4 ≤ k → k < 12 → f k = 0) (hl : l.length + 2 ≤ 96) :
    ∃ m, bgive_M img l 1 gi gb (496 + 16 * n) c = some (0, m) ∧ m.length ≤ l.length + 2 ∧ Mp gi gb img m n O hd f 0 ∧ ∀ z, ¬ (480 ≤ z ∧ z < 488) → z ≠ 496 + 16 * n → vget img m z = vget img l z := by
  have hg := h.dk.g
  have hrc := h.rc
  have hnr := h.nr
  have hlen := h.dk.len
  obtain ⟨m, g1, g2, g3, g4, g5⟩ := h.dk.give (b := c) (by omega) ((h.bits _ (by omega)).2 (.inr (.inr (.inl (by omega))))) (at_ := 496 + 16 * n) (by omega) hl
  have hne : ∀ z, ¬ (480 ≤ z ∧ z < 488) → z ≠ 496 + 16 * n → vget img m z = vget img l z := fun z h1 h2 => by rw [g4 z h1, if_neg h2]
  refine ⟨m, g1, g3, ⟨g2, hnr, h.hd, ?_, ?_, ?_, ?_, ?_, fun j hj => ?_, ?_, fun j hj1 hj2 => ?_, h.rf, by omega, h.inj, fun j hj q => absurd rfl q, fun b hb => ?_, fun b hb => ?_⟩, hne⟩
  · rw [hne _ (by omega) (by omega)]; exact h.w0
  · rw [hne _ (by omega) (by omega)]; exact h.w1
  · rw [hne _ (by omega) (by omega)]; exact h.w2
  · rw [hne _ (by omega) (by omega)]; exact h.w3
  · rw [hne _ (by omega) (by omega)]; exact h.w9
  · rw [hne _ (by omega) (by omega)]; exact h.wd j hj
  · rw [g4 _ (by omega), if_pos rfl]
  · rw [if_pos rfl]; exact hz j hj1 hj2
  · rw [g5 b hb]
    by_cases e : b = c.toNat
    · rw [if_pos e]
      refine ⟨fun q => absurd q (by decide), fun q => ?_⟩
      exfalso
      rcases q with q | ⟨j, hj, q⟩ | q | q
      · omega
      · exact h.fc j hj hc (by omega)
      · omega
      · exact (h.od b q).2.2.2 (by omega)
    · rw [if_neg e, h.bits b hb]
      constructor
      · rintro (q | q | q | q)
        · exact .inl q
        · exact .inr (.inl q)
        · omega
        · exact .inr (.inr (.inr q))
      · rintro (q | q | q | q)
        · exact .inl q
        · exact .inr (.inl q)
        · exact .inl (by omega)
        · exact .inr (.inr (.inr q))
  · obtain ⟨o1, o2, o3, o4⟩ := h.od b hb
    exact ⟨o1, o2, o3, by omega⟩
theorem Mp.takeW (h : Mp gi gb img l n O hd f c) {k : Nat} (hk : k < 12) (hc : k < 4 ∨ c ≠ 0) (h0 : f k = 0) {i : Nat} (hi : i < gb.toNat) (hf : mbits img l 480 i = false) (hlow : ∀ j, j < i → mbits img l 480 j = true) (hl : l.length + 10 ≤ 96) :
    ∃ m, btake_M img l 1 gi gb (wordAt gi n c k) = some ((i : Int), 0, m) ∧ m.length ≤ l.length + 10 ∧ 1 ≤ i ∧ Mp gi gb img m n O hd (upd f k (i : Int)) c ∧ (∀ z, ¬ (480 ≤ z ∧ z < 488) → vget img m z = if z = wordAt gi n c k then (i : Int) else if 488 + 16 * gi + 8 * (i : Int) ≤ z ∧ z < 488 + 16 * gi + 8 * (i : Int) + 8 then 0 else vget img l z) ∧
      (∀ j, j < 512 → mbits img m 480 j = if j = i then true else mbits img l 480 j) := by
  have hg := h.dk.g
  have hnr := h.nr
  have hrc := h.rc
  have nb : ¬ (mbits img l 480 i = true) := by rw [hf]; decide
  rw [h.bits i (by omega)] at nb
  have h1 : 1 ≤ i := by
    rcases Nat.eq_zero_or_pos i with e | e
    · exact absurd (.inl e) nb
    · exact e
  have hci : c ≠ (i : Int) := fun e => nb (.inr (.inr (.inl e)))
  have hfi : ∀ j, j < 12 → f j ≠ (i : Int) := fun j hj e => nb (.inr (.inl ⟨j, hj, e⟩))
  have hoi : ¬ O i := fun e => nb (.inr (.inr (.inr e)))
  have hat : ¬ (488 + 16 * gi + 8 * (i : Int) ≤ wordAt gi n c k ∧ wordAt gi n c k < 488 + 16 * gi + 8 * (i : Int) + 8) := by
    unfold wordAt
    split <;> omega
  obtain ⟨m, g1, g2, g3, g4, g5⟩ := h.dk.take hi h1 hf hlow (h.wordIn hk) hat hl
  refine ⟨m, g1, g3, h1, h.turn hk hc (x := (i : Int)) (by omega) g2 (fun z hz hz2 => ?_) (fun j hj _ _ => hfi j hj) (fun _ => hci) (fun b hb => ?_) (fun b hb e => hoi (by rw [show i = b by omega]; exact hb)), g4, g5⟩
  · rw [g4 z hz]
    by_cases e : z = wordAt gi n c k
    · rw [if_pos e, if_pos e]
    · rw [if_neg e, if_neg e, if_neg (by omega)]
  · rw [g5 b hb]
    by_cases e : b = i
    · rw [if_pos e]
      exact ⟨fun _ => .inr (.inl ⟨k, hk, by rw [upd_at]; omega⟩), fun _ => rfl⟩
    · rw [if_neg e, h.bits b hb]
      constructor
      · rintro (q | ⟨j, hj, q⟩ | q | q)
        · exact .inl q
        · by_cases ej : j = k
          · subst ej; exact .inl (by omega)
          · exact .inr (.inl ⟨j, hj, by rw [upd_ne ej]; exact q⟩)
        · exact .inr (.inr (.inl q))
        · exact .inr (.inr (.inr q))
      · rintro (q | ⟨j, hj, q⟩ | q | q)
        · exact .inl q
        · by_cases ej : j = k
          · subst ej; rw [upd_at] at q; omega
          · rw [upd_ne ej] at q; exact .inr (.inl ⟨j, hj, q⟩)
        · exact .inr (.inr (.inl q))
        · exact .inr (.inr (.inr q))
theorem Mp.takeC (h : Mp gi gb img l n O hd f 0) {i : Nat} (hi : i < gb.toNat) (hf : mbits img l 480 i = false) (hlow : ∀ j, j < i → mbits img l 480 j = true) (hl : l.length + 10 ≤ 96) :
    ∃ m, btake_M img l 1 gi gb (496 + 16 * n) = some ((i : Int), 0, m) ∧ m.length ≤ l.length + 10 ∧ 1 ≤ i ∧ Mp gi gb img m n O hd f (i : Int) ∧ (∀ z, ¬ (480 ≤ z ∧ z < 488) → vget img m z = if z = 496 + 16 * n then (i : Int) else if 488 + 16 * gi + 8 * (i : Int) ≤ z ∧ z < 488 + 16 * gi + 8 * (i : Int) + 8 then 0 else vget img l z) ∧
      (∀ j, j < 512 → mbits img m 480 j = if j = i then true else mbits img l 480 j) := by
  have hg := h.dk.g
  have hnr := h.nr
  have hlen := h.dk.len
  have nb : ¬ (mbits img l 480 i = true) := by rw [hf]; decide
  rw [h.bits i (by omega)] at nb
  have h1 : 1 ≤ i := by
    rcases Nat.eq_zero_or_pos i with e | e
    · exact absurd (.inl e) nb
    · exact e
  have hfi : ∀ j, j < 12 → f j ≠ (i : Int) := fun j hj e => nb (.inr (.inl ⟨j, hj, e⟩))
  have hoi : ¬ O i := fun e => nb (.inr (.inr (.inr e)))
  obtain ⟨m, g1, g2, g3, g4, g5⟩ := h.dk.take hi h1 hf hlow (at_ := 496 + 16 * n) (by omega) (by omega) hl
  have hne : ∀ z, ¬ (480 ≤ z ∧ z < 488) → z < 488 + 16 * gi → z ≠ 496 + 16 * n → vget img m z = vget img l z := fun z a1 a2 a3 => by rw [g4 z a1, if_neg a3, if_neg (by omega)]
  refine ⟨m, g1, g3, h1, ⟨g2, hnr, h.hd, ?_, ?_, ?_, ?_, ?_, fun j hj => ?_, ?_, fun j hj1 hj2 => ?_, h.rf, by omega, h.inj, fun j hj _ => hfi j hj, fun b hb => ?_, fun b hb => ?_⟩, g4, g5⟩
  · rw [hne _ (by omega) (by omega) (by omega)]; exact h.w0
  · rw [hne _ (by omega) (by omega) (by omega)]; exact h.w1
  · rw [hne _ (by omega) (by omega) (by omega)]; exact h.w2
  · rw [hne _ (by omega) (by omega) (by omega)]; exact h.w3
  · rw [hne _ (by omega) (by omega) (by omega)]; exact h.w9
  · rw [hne _ (by omega) (by omega) (by omega)]; exact h.wd j hj
  · rw [g4 _ (by omega), if_pos rfl]
  · rw [if_neg (by omega), g4 _ (by omega), if_neg (by omega), if_pos (by omega), h.we j hj1 hj2, if_pos rfl]
  · rw [g5 b hb]
    by_cases e : b = i
    · rw [if_pos e]
      exact ⟨fun _ => .inr (.inr (.inl (by omega))), fun _ => rfl⟩
    · rw [if_neg e, h.bits b hb]
      constructor
      · rintro (q | q | q | q)
        · exact .inl q
        · exact .inr (.inl q)
        · exact .inl (by omega)
        · exact .inr (.inr (.inr q))
      · rintro (q | q | q | q)
        · exact .inl q
        · exact .inr (.inl q)
        · omega
        · exact .inr (.inr (.inr q))
  · obtain ⟨o1, o2, o3, o4⟩ := h.od b hb
    exact ⟨o1, o2, o3, fun e => hoi (by rw [show i = b by omega]; exact hb)⟩

def bareB (f : Nat → Int) : Bool := (List.range 12).all fun k => decide (k < 4) || decide (f k = 0)
theorem bareB_iff {f : Nat → Int} : bareB f = true ↔ ∀ k : Nat, k < 12 → 4 ≤ k → f k = 0 := by
  unfold bareB
  simp only [List.all_eq_true, List.mem_range, Bool.or_eq_true, decide_eq_true_eq]
  exact ⟨fun q k k1 k2 => (q k k1).resolve_left (by omega), fun q k k1 => (Nat.lt_or_ge k 4).imp id (q k k1)⟩
theorem Mp.bare (h : Mp gi gb img l n O hd f c) (hc : c ≠ 0) : bbare_M img l 1 gi gb c = some (bareB f) := by
  have hg := h.dk.g
  have hrc := h.rc
  have hp := place9_in (n := c) h.dk.may (by omega)
  unfold bbare_M
  refine iter_run (fun p => 0 ≤ p ∧ p ≤ 8 ∧ ∀ k : Nat, k < 12 → 4 ≤ k → (k : Int) < 4 + p → f k = 0) (fun p => (8 - p).toNat) ?_ _ _ ⟨by omega, by omega, fun k _ _ _ => by omega⟩ (fuel_lt (by omega))
  rintro kk p ⟨h1, h2, h3⟩ ih
  unfold bbare_B0
  by_cases hp8 : p < 8
  · rw [if_pos hp8, hp]
    refine need_of (by omega) ?_
    have hw := h.we (4 + p.toNat) (by omega) (by omega)
    rw [if_neg hc, show 484 + 16 * gi + 8 * c + ((4 + p.toNat : Nat) : Int) = 488 + 16 * gi + 8 * c + p by omega] at hw
    rw [← hw]
    by_cases h0 : f (4 + p.toNat) = 0
    · rw [if_pos h0]
      refine need_of (by omega) (ih _ ⟨by omega, by omega, fun k k1 k2 k3 => ?_⟩ (by omega))
      by_cases e : k = 4 + p.toNat
      · rw [e]; exact h0
      · exact h3 k k1 k2 (by omega)
    · rw [if_neg h0]
      cases hb : bareB f with
      | false => rfl
      | true => exact absurd (bareB_iff.1 hb (4 + p.toNat) (by omega) (by omega)) h0
  · rw [if_neg hp8, bareB_iff.2 fun k k1 k2 => h3 k k1 k2 (by omega)]
def Full (f : Nat → Int) (c : Int) : Prop := c ≠ 0 → ∃ k, k < 12 ∧ 4 ≤ k ∧ f k ≠ 0
theorem Mp.drop (h : Mp gi gb img l n O hd f c) {k : Nat} (hk : k < 12) (hl : l.length + 4 ≤ 96) :
    ∃ m c', bDrop_M img l 1 gi gb n (k : Int) = some (0, m) ∧ m.length ≤ l.length + 4 ∧ Mp gi gb img m n O hd (upd f k 0) c' ∧ (Full f c → Full (upd f k 0) c') ∧ (c' = c ∨ c' = 0) ∧
      (∀ z, ¬ (480 ≤ z ∧ z < 488) → z ≠ wordAt gi n c k → z ≠ 496 + 16 * n → vget img m z = vget img l z) := by
  unfold bDrop_M
  rw [h.at hk]
  simp only [Option.bind, if_true]
  by_cases h0 : f k = 0
  · rw [if_pos h0]
    have e : upd f k 0 = f := by
      funext j
      unfold upd
      split
      · rename_i e; rw [e, h0]
      · rfl
    rw [e]
    exact ⟨l, c, rfl, by omega, h, id, .inl rfl, fun _ _ _ _ => rfl⟩
  · rw [if_neg h0, h.word hk]
    obtain ⟨m, g1, g2, g3, g4⟩ := h.giveW hk h0 (by omega)
    simp only [g1, if_true, g3.chain]
    by_cases hc : c = 0
    · rw [if_pos hc]
      unfold bDrop_J1
      rw [if_neg (by decide)]
      exact ⟨m, c, rfl, by omega, g3, fun _ q => absurd hc q, .inl rfl, fun z z1 z2 _ => g4 z z1 z2⟩
    · rw [if_neg hc, g3.bare hc]
      simp only
      unfold bDrop_J1
      by_cases hz : ∀ j : Nat, j < 12 → 4 ≤ j → upd f k 0 j = 0
      · rw [if_pos (bareB_iff.2 hz), g3.own (by omega), show 488 + 16 * n + 8 = 496 + 16 * n by omega]
        obtain ⟨m2, e1, e2, e3, e4⟩ := g3.giveC hc (fun j a b => hz j b a) (by omega)
        simp only [Option.bind, e1]
        exact ⟨m2, 0, rfl, by omega, e3, fun _ q => absurd rfl q, .inr rfl, fun z z1 z2 z3 => by rw [e4 z z1 z3, g4 z z1 z2]⟩
      · rw [if_neg fun q => hz (bareB_iff.1 q)]
        refine ⟨m, c, rfl, by omega, g3, fun _ _ => ?_, .inl rfl, fun z z1 z2 _ => g4 z z1 z2⟩
        obtain ⟨j, hj⟩ := Classical.not_forall.1 hz
        obtain ⟨hj1, hj⟩ := Classical.not_imp.1 hj
        obtain ⟨hj2, hj⟩ := Classical.not_imp.1 hj
        exact ⟨j, hj1, hj2, hj⟩
def cutF (f : Nat → Int) (a b : Nat) : Nat → Int := fun j => if a ≤ j ∧ j < b then 0 else f j
theorem Mp.cut (h : Mp gi gb img l n O hd f c) {a : Nat} (ha : a ≤ 12) (hl : l.length + 48 ≤ 96) :
    ∃ m c', bCut_M img l 1 gi gb n (a : Int) = some (0, m) ∧ m.length ≤ l.length + 48 ∧ Mp gi gb img m n O hd (cutF f a 12) c' ∧ (Full f c → Full (cutF f a 12) c') ∧
      (∀ z, z < 480 ∨ (488 ≤ z ∧ z < 488 + 16 * gi ∧ ¬ (492 + 16 * n ≤ z ∧ z ≤ 496 + 16 * n)) ∨ (488 + 16 * gi ≤ z ∧ (c ≠ 0 → ¬ (488 + 16 * gi + 8 * c ≤ z ∧ z < 488 + 16 * gi + 8 * c + 8))) → vget img m z = vget img l z) := by
  have hnr := h.nr
  have hrc := h.rc
  have key : ∀ (t k : Nat) (l' : List (Int × Int)) (c' : Int), k + t = 12 - a → l'.length ≤ l.length + 4 * k → Mp gi gb img l' n O hd (cutF f a (a + k)) c' → (Full f c → Full (cutF f a (a + k)) c') → (c' = c ∨ c' = 0) →
      (∀ z, z < 480 ∨ (488 ≤ z ∧ z < 488 + 16 * gi ∧ ¬ (492 + 16 * n ≤ z ∧ z ≤ 496 + 16 * n)) ∨ (488 + 16 * gi ≤ z ∧ (c ≠ 0 → ¬ (488 + 16 * gi + 8 * c ≤ z ∧ z < 488 + 16 * gi + 8 * c + 8))) → vget img l' z = vget img l z) →
      ∃ m c', rounds (fun k_ c_ s_ => bCut_R21 img 1 gi gb n (a : Int) k_ c_ s_) (fun s_ => bCut_D21 s_) t k l' = some (0, m) ∧ m.length ≤ l.length + 48 ∧ Mp gi gb img m n O hd (cutF f a 12) c' ∧ (Full f c → Full (cutF f a 12) c') ∧
        (∀ z, z < 480 ∨ (488 ≤ z ∧ z < 488 + 16 * gi ∧ ¬ (492 + 16 * n ≤ z ∧ z ≤ 496 + 16 * n)) ∨ (488 + 16 * gi ≤ z ∧ (c ≠ 0 → ¬ (488 + 16 * gi + 8 * c ≤ z ∧ z < 488 + 16 * gi + 8 * c + 8))) → vget img m z = vget img l z) := by
    intro t
    induction t with
    | zero =>
      intro k l' c' h1 h2 h3 h4 h5 h6
      rw [show a + k = 12 by omega] at h3 h4
      exact ⟨l', c', rfl, by omega, h3, h4, h6⟩
    | succ t ih =>
      intro k l' c' h1 h2 h3 h4 h5 h6
      have hg := h.dk.g
      obtain ⟨m, c2, e1, e2, e3, e4, e5, e6⟩ := h3.drop (k := a + k) (by omega) (by omega)
      have eR : rounds (fun k_ c_ s_ => bCut_R21 img 1 gi gb n (a : Int) k_ c_ s_) (fun s_ => bCut_D21 s_) (t + 1) k l' = rounds (fun k_ c_ s_ => bCut_R21 img 1 gi gb n (a : Int) k_ c_ s_) (fun s_ => bCut_D21 s_) t (k + 1) m := by
        show bCut_R21 img 1 gi gb n (a : Int) k _ l' = _
        unfold bCut_R21
        simp only [Option.bind]
        rw [show (a : Int) + (k : Int) = ((a + k : Nat) : Int) by omega, e1]
        simp only [if_true]
      rw [eR]
      have eU : upd (cutF f a (a + k)) (a + k) 0 = cutF f a (a + (k + 1)) := by
        funext j
        unfold upd cutF
        by_cases e : j = a + k
        · rw [if_pos e, if_pos (by omega)]
        · rw [if_neg e]
          by_cases e2 : a ≤ j ∧ j < a + k
          · rw [if_pos e2, if_pos (by omega)]
          · rw [if_neg e2, if_neg (by omega)]
      rw [eU] at e3 e4
      refine ih (k + 1) m c2 (by omega) (by omega) e3 (fun q => e4 (h4 q)) (by omega) fun z hz => ?_
      have hw : wordAt gi n c' (a + k) = if a + k < 4 then 492 + 16 * n + ((a + k : Nat) : Int) else 484 + 16 * gi + 8 * c' + ((a + k : Nat) : Int) := rfl
      by_cases e : cutF f a (a + k) (a + k) = 0
      · -- nothing was there
        have hD : bDrop_M img l' 1 gi gb n ((a + k : Nat) : Int) = some (0, l') := by
          unfold bDrop_M
          rw [h3.at (by omega)]
          simp only [Option.bind, if_true]
          rw [if_pos e]
        rw [hD] at e1
        have : m = l' := by
          have := Option.some.inj e1
          exact (Prod.mk.inj this).2.symm
        rw [this]
        exact h6 z hz
      · have hh := h3.hasWord (k := a + k) (by omega) e
        have hz2 : z ≠ wordAt gi n c' (a + k) := by
          rw [hw]
          split <;> omega
        rw [e6 z (by omega) hz2 (by omega)]
        exact h6 z hz
  have J : ∃ m c', bCut_J1 img l 1 gi gb n (a : Int) = some (0, m) ∧ m.length ≤ l.length + 48 ∧ Mp gi gb img m n O hd (cutF f a 12) c' ∧ (Full f c → Full (cutF f a 12) c') ∧
      (∀ z, z < 480 ∨ (488 ≤ z ∧ z < 488 + 16 * gi ∧ ¬ (492 + 16 * n ≤ z ∧ z ≤ 496 + 16 * n)) ∨ (488 + 16 * gi ≤ z ∧ (c ≠ 0 → ¬ (488 + 16 * gi + 8 * c ≤ z ∧ z < 488 + 16 * gi + 8 * c + 8))) → vget img m z = vget img l z) := by
    have e0 : cutF f a (a + 0) = f := by
      funext j
      unfold cutF
      rw [if_neg (by omega)]
    obtain ⟨m, c', k1, k2, k3, k4, k5⟩ := key (12 - a) 0 l c (by omega) (by omega) (by rw [e0]; exact h) (by rw [e0]; exact id) (.inl rfl) (fun _ _ => rfl)
    refine ⟨m, c', need_of (by omega) ?_, k2, k3, k4, k5⟩
    rw [show (12 - (a : Int)).toNat = 12 - a by omega]
    exact k1
  obtain ⟨m, c', k1, k2⟩ := J
  refine ⟨m, c', ?_, k2⟩
  unfold bCut_M
  rw [if_neg (by omega), if_neg (by omega)]
  exact k1
end
end Go.Proofs.YtmmclabkkigiaaaDoor

namespace Go.Proofs.YtmmclabkkigiaaaDoor
open Go Go.RowKit
set_option linter.unusedVariables false
set_option linter.unusedSimpArgs false

def listF (f : Nat → Int) : Nat → List Int
  | 0 => []
  | k + 1 => if f k = 0 then listF f k else listF f k ++ [f k]
def ownF (f : Nat → Int) (c : Int) : List Int := if c = 0 then listF f 12 else listF f 12 ++ [c]
theorem mem_listF {f : Nat → Int} {x : Int} : ∀ {n : Nat}, x ∈ listF f n ↔ x ≠ 0 ∧ ∃ k, k < n ∧ f k = x
  | 0 => by simp [listF]
  | n + 1 => by
    unfold listF
    by_cases h : f n = 0
    · rw [if_pos h, mem_listF]
      constructor
      · rintro ⟨h1, k, h2, h3⟩; exact ⟨h1, k, by omega, h3⟩
      · rintro ⟨h1, k, h2, h3⟩
        refine ⟨h1, k, ?_, h3⟩
        by_cases e : k = n
        · subst e; omega
        · omega
    · rw [if_neg h, List.mem_append, mem_listF, List.mem_singleton]
      constructor
      · rintro (⟨h1, k, h2, h3⟩ | rfl)
        · exact ⟨h1, k, by omega, h3⟩
        · exact ⟨h, n, by omega, rfl⟩
      · rintro ⟨h1, k, h2, h3⟩
        by_cases e : k = n
        · subst e; exact .inr h3.symm
        · exact .inl ⟨h1, k, by omega, h3⟩
theorem nodup_listF {f : Nat → Int} : ∀ {n : Nat}, (∀ j k, j < n → k < n → f j ≠ 0 → f j = f k → j = k) → (listF f n).Nodup
  | 0, _ => by simp [listF]
  | n + 1, h => by
    have ih := nodup_listF (f := f) (n := n) fun j k hj hk => h j k (by omega) (by omega)
    unfold listF
    by_cases h0 : f n = 0
    · rw [if_pos h0]; exact ih
    · rw [if_neg h0]
      refine List.nodup_append.2 ⟨ih, by simp, fun a ha b hb e => ?_⟩
      rw [List.mem_singleton] at hb
      subst hb
      subst e
      obtain ⟨_, k, hk, e2⟩ := mem_listF.1 ha
      have := h k n (by omega) (by omega) (by omega) e2
      omega
theorem mem_ownF {f : Nat → Int} {c x : Int} : x ∈ ownF f c ↔ x ≠ 0 ∧ ((∃ k, k < 12 ∧ f k = x) ∨ c = x) := by
  unfold ownF
  by_cases h : c = 0
  · rw [if_pos h, mem_listF]
    constructor
    · rintro ⟨h1, h2⟩; exact ⟨h1, .inl h2⟩
    · rintro ⟨h1, h2 | h2⟩
      · exact ⟨h1, h2⟩
      · omega
  · rw [if_neg h, List.mem_append, mem_listF, List.mem_singleton]
    constructor
    · rintro (⟨h1, h2⟩ | rfl)
      · exact ⟨h1, .inl h2⟩
      · exact ⟨h, .inr rfl⟩
    · rintro ⟨h1, h2 | h2⟩
      · exact .inl ⟨h1, h2⟩
      · exact .inr h2.symm
theorem listF_upd {f : Nat → Int} {k : Nat} {b : Int} (h0 : f k = 0) (hb : b ≠ 0) : ∀ {n : Nat}, (listF (upd f k b) n).length = (listF f n).length + (if k < n then 1 else 0)
  | 0 => by simp [listF]
  | n + 1 => by
    have ih := listF_upd h0 hb (n := n)
    unfold listF
    by_cases e : n = k
    · subst e
      rw [upd_at, if_neg hb, if_pos h0, if_pos (by omega), List.length_append, ih, if_neg (by omega)]
      rfl
    · rw [upd_ne e]
      by_cases hk : k < n
      · rw [if_pos hk] at ih
        rw [if_pos (show k < n + 1 by omega)]
        split
        · exact ih
        · simp only [List.length_append, List.length_cons, List.length_nil]; omega
      · rw [if_neg hk] at ih
        rw [if_neg (show ¬ k < n + 1 by omega)]
        split
        · exact ih
        · simp only [List.length_append, List.length_cons, List.length_nil]; omega
theorem cnt_list {gb : Nat} : ∀ {xs : List Int}, xs.Nodup → (∀ x ∈ xs, 0 < x ∧ x < (gb : Int)) → 0 < gb → cnt (fun b => decide (b = 0) || decide ((b : Int) ∈ xs)) gb = 1 + xs.length
  | [], _, _, h => by
    have e : cnt (fun b => decide (b = 0) || decide ((b : Int) ∈ ([] : List Int))) gb = cnt (fun b => decide (b < 1)) gb := cnt_congr fun i hi => by simp [Nat.lt_one_iff]
    rw [e, cnt_dec]
    simp
    omega
  | x :: xs, hn, hr, h => by
    have hx := hr x (by simp)
    have hn' := List.nodup_cons.1 hn
    have ih := cnt_list hn'.2 (fun y hy => hr y (by simp [hy])) h
    have hset := cnt_set (f := fun b => decide (b = 0) || decide ((b : Int) ∈ xs)) (j := x.toNat) (b := true) (n := gb) (by omega)
    have e : cnt (fun b => decide (b = 0) || decide ((b : Int) ∈ x :: xs)) gb = cnt (fun i => if i = x.toNat then true else decide (i = 0) || decide ((i : Int) ∈ xs)) gb := cnt_congr fun i hi => by
      by_cases e : i = x.toNat
      · rw [if_pos e, Bool.or_eq_true]
        refine .inr (decide_eq_true ?_)
        rw [show (i : Int) = x by omega]
        simp
      · rw [if_neg e]
        congr 1
        exact decide_eq_decide.2 ⟨fun q => (List.mem_cons.1 q).resolve_left (by omega), fun q => List.mem_cons.2 (.inr q)⟩
    have h0 : (decide (x.toNat = 0) || decide (((x.toNat : Nat) : Int) ∈ xs)) = false := by
      rw [Bool.or_eq_false_iff]
      refine ⟨decide_eq_false (by omega), decide_eq_false fun q => hn'.1 ?_⟩
      rw [show x = ((x.toNat : Nat) : Int) by omega]
      exact q
    rw [h0, ih, ← e] at hset
    simp at hset ⊢
    omega
section
variable {gi gb : Int} {img : List Int} {l : List (Int × Int)} {n : Int} {O : Nat → Prop} {hd : Hd} {f : Nat → Int} {c : Int}
theorem Mp.nodup (h : Mp gi gb img l n O hd f c) : (ownF f c).Nodup := by
  have hl := nodup_listF (f := f) (n := 12) h.inj
  unfold ownF
  by_cases hc : c = 0
  · rw [if_pos hc]; exact hl
  · rw [if_neg hc]
    refine List.nodup_append.2 ⟨hl, by simp, fun a ha b hb e => ?_⟩
    rw [List.mem_singleton] at hb
    subst hb
    subst e
    obtain ⟨_, k, hk, e2⟩ := mem_listF.1 ha
    exact h.fc k hk hc e2
theorem Mp.ownIn (h : Mp gi gb img l n O hd f c) : ∀ x ∈ ownF f c, 0 < x ∧ x < gb := by
  intro x hx
  obtain ⟨h1, h2⟩ := mem_ownF.1 hx
  have hrc := h.rc
  rcases h2 with ⟨k, hk, e⟩ | e
  · have := h.rf k hk
    omega
  · omega
theorem Mp.count (h : Mp gi gb img l n O hd f c) (hO : ∀ b, ¬ O b) : cnt (mbits img l 480) gb.toNat = 1 + (ownF f c).length := by
  have hg := h.dk.g
  rw [← cnt_list (gb := gb.toNat) h.nodup (fun x hx => by have := h.ownIn x hx; omega) (by omega)]
  refine cnt_congr fun b hb => ?_
  rw [Bool.eq_iff_iff, h.bits b (by omega), Bool.or_eq_true, decide_eq_true_iff, decide_eq_true_iff, mem_ownF]
  constructor
  · rintro (q | q | q | q)
    · exact .inl q
    · by_cases e : b = 0
      · exact .inl e
      · exact .inr ⟨by omega, .inl q⟩
    · by_cases e : b = 0
      · exact .inl e
      · exact .inr ⟨by omega, .inr q⟩
    · exact absurd q (hO b)
  · rintro (q | ⟨_, q | q⟩)
    · exact .inl q
    · exact .inr (.inl q)
    · exact .inr (.inr (.inl q))
theorem Mp.take (h : Mp gi gb img l n O hd f c) {k : Nat} (hk : k < 12) (hl : l.length + 20 ≤ 96) :
    (f k ≠ 0 ∧ bTake_M img l 1 gi gb n (k : Int) = some (f k, 0, l)) ∨
    (f k = 0 ∧ gb - (cnt (mbits img l 480) gb.toNat : Nat) < needF f c k ∧ bTake_M img l 1 gi gb n (k : Int) = some (0, 7, l)) ∨
    (f k = 0 ∧ ¬ gb - (cnt (mbits img l 480) gb.toNat : Nat) < needF f c k ∧ ∃ m b c', bTake_M img l 1 gi gb n (k : Int) = some (b, 0, m) ∧ m.length ≤ l.length + 20 ∧ Mp gi gb img m n O hd (upd f k b) c' ∧ 0 < b ∧ mbits img l 480 b.toNat = false ∧
      (c' = c ∧ (k < 4 ∨ c ≠ 0) ∨ c = 0 ∧ 4 ≤ k ∧ 0 < c' ∧ mbits img l 480 c'.toNat = false) ∧ (∀ z, 488 + 16 * gi + 8 * b ≤ z ∧ z < 488 + 16 * gi + 8 * b + 8 → vget img m z = 0) ∧
      (∀ z, ¬ (480 ≤ z ∧ z < 488) → ¬ (492 + 16 * n ≤ z ∧ z ≤ 496 + 16 * n) → ¬ (488 + 16 * gi + 8 * b ≤ z ∧ z < 488 + 16 * gi + 8 * b + 8) → ¬ (4 ≤ k ∧ 488 + 16 * gi + 8 * c' ≤ z ∧ z < 488 + 16 * gi + 8 * c' + 8) → vget img m z = vget img l z)) := by
  have hg := h.dk.g
  have hlen := h.dk.len
  have hw := h.dk.words
  have hnr := h.nr
  have hrc := h.rc
  unfold bTake_M
  rw [h.at hk]
  simp only [Option.bind, if_true]
  unfold bTake_J1
  by_cases h0 : f k = 0
  rotate_left
  · refine .inl ⟨h0, ?_⟩
    rw [if_pos (by simp [h0])]
  refine .inr ?_
  rw [decide_eq_true h0, if_neg (by decide)]
  have hcnt := cnt_le (mbits img l 480) gb.toNat
  have hfree := afree_ok (img := img) (l := l) (gi := gi) (gb := gb) (ia := 472) (ba := 480) h.dk.vr (by omega) (by omega) (by omega) (by omega)
  unfold freeF at hfree
  have hN : needF f c k = if k < 4 ∨ c ≠ 0 then 1 else 2 := by unfold needF; rw [if_pos h0]
  rw [show ∀ x : Option (Int × Int × List (Int × Int)), Go.Proofs.YtmmclabkkigiaaaDoor.need ((img.length : Int) ≤ 1000000000000) x = x from fun x => need_of (by omega) rfl, if_pos ⟨h.dk.may, by omega⟩, place6 h.dk.may, place7 h.dk.may]
  simp only [Int.reduceMul, Int.reduceAdd]
  rw [hfree, h.need hk]
  simp only [Option.bind]
  by_cases hfr : gb - (cnt (mbits img l 480) gb.toNat : Nat) < needF f c k
  · rw [if_pos hfr]
    exact .inl ⟨h0, hfr, rfl⟩
  refine .inr ⟨h0, hfr, ?_⟩
  rw [if_neg hfr, h.word hk]
  simp only
  -- the least one that is free
  have lowest : ∀ l', cnt (mbits img l' 480) gb.toNat < gb.toNat → ∃ i, i < gb.toNat ∧ mbits img l' 480 i = false ∧ ∀ j, j < i → mbits img l' 480 j = true := fun l' hl' => by
    rcases lst_cases (mbits img l' 480) gb.toNat with ⟨i, h1, h2, h3, _⟩ | ⟨h1, _⟩
    · exact ⟨i, h1, h2, h3⟩
    · have := cnt_full h1
      omega
  obtain ⟨i, i1, i2, i3⟩ := lowest l (by rw [hN] at hfr; split at hfr <;> omega)
  by_cases hc : k < 4 ∨ c ≠ 0
  · have ht : (if k < 4 then true else !decide (c = 0)) = true := by
      rcases hc with hc | hc
      · rw [if_pos hc]
      · split
        · rfl
        · simp [hc]
    rw [ht, if_pos rfl]
    obtain ⟨m, t1, t2, t3, t4, t5, t6⟩ := h.takeW hk hc h0 i1 i2 i3 (by omega)
    unfold bTake_J2
    rw [t1]
    refine ⟨m, (i : Int), c, rfl, by omega, t4, by omega, by rw [Int.toNat_natCast]; exact i2, .inl ⟨rfl, hc⟩, fun z hz => ?_, fun z z1 z2 z3 z4 => ?_⟩
    · rw [t5 z (by omega), if_neg, if_pos hz]
      have hi3 : ¬ c = (i : Int) := fun e => by
        have := (h.bits i (by omega)).2 (.inr (.inr (.inl e)))
        rw [i2] at this
        cases this
      unfold wordAt
      by_cases h4 : k < 4
      · rw [if_pos h4]; omega
      · rw [if_neg h4]; omega
    · rw [t5 z z1, if_neg, if_neg z3]
      unfold wordAt
      by_cases h4 : k < 4
      · rw [if_pos h4]; omega
      · rw [if_neg h4]; omega
  · have hc0 : c = 0 := by omega
    have hk4 : 4 ≤ k := by omega
    subst hc0
    rw [if_neg (show ¬ k < 4 by omega), if_neg (by simp), h.own (by omega), show 488 + 16 * n + 8 = 496 + 16 * n by omega]
    simp only
    obtain ⟨m1, t1, t2, t3, t4, t5, t6⟩ := h.takeC i1 i2 i3 (by omega)
    rw [t1]
    simp only [if_true]
    rw [t4.word hk]
    simp only
    have hset := cnt_set (f := mbits img l 480) (j := i) (b := true) (n := gb.toNat) i1
    have hcc : cnt (mbits img m1 480) gb.toNat = cnt (fun j => if j = i then true else mbits img l 480 j) gb.toNat := cnt_congr fun j hj => t6 j (by omega)
    rw [← hcc, i2] at hset
    simp at hset
    have hN2 : needF f 0 k = 2 := by rw [hN, if_neg (by omega)]
    rw [hN2] at hfr
    obtain ⟨i', j1, j2, j3⟩ := lowest m1 (by omega)
    obtain ⟨m, s1, s2, s3, s4, s5, s6⟩ := t4.takeW hk (.inr (by omega)) h0 j1 j2 j3 (by omega)
    unfold bTake_J2
    rw [s1]
    have hii : i' ≠ i := fun e => by
      have := t6 i' (by omega)
      rw [if_pos e, j2] at this
      cases this
    have hb0 : mbits img l 480 i' = false := by
      have := t6 i' (by omega)
      rw [if_neg hii, j2] at this
      exact this.symm
    refine ⟨m, (i' : Int), (i : Int), rfl, by omega, s4, by omega, by rw [Int.toNat_natCast]; exact hb0, .inr ⟨by trivial, hk4, by omega, by rw [Int.toNat_natCast]; exact i2⟩, fun z hz => ?_, fun z z1 z2 z3 z4 => ?_⟩
    · rw [s5 z (by omega), if_neg, if_pos hz]
      unfold wordAt
      rw [if_neg (by omega)]
      omega
    · rw [s5 z z1, if_neg, if_neg z3, t5 z z1, if_neg (by omega), if_neg (by omega)]
      unfold wordAt
      rw [if_neg (by omega)]
      omega
end
end Go.Proofs.YtmmclabkkigiaaaDoor

set_option maxRecDepth 20000
namespace Go.Proofs.YtmmclabkkigiaaaDoor
open Go Go.RowKit
set_option linter.unusedSimpArgs false
set_option linter.unusedVariables false



theorem ig_nil {gw gi gb n_ : Int} (B : Nat) (w : World) : Spec Tryd.prog 39 #[(.pointer none), (.agg #[(.int .i64 gw), (.int .i64 gi), (.int .i64 gb)]), (.int .i64 n_)] B w [] (fun v H' => v = (.tuple #[(.agg #[(.int .u64 0), (.int .u64 0), (.int .u64 0), (.int .u64 0), (.int .u64 0), (.int .u64 0), (.int .u64 0), (.int .u64 0), (.int .u64 0), (.int .u64 0)]), (.int .i64 2)]) ∧ H' = []) := by
 refine spec_Q Tryd.func39 rfl fun hs => ?_
 refine W.sr fun K1 hK1 => ?_
 refine zN [(.int .i64 gw), (.int .i64 gi), (.int .i64 gb)] 23 hs fun b4 w2 hs3 => ?_
 refine zN [(.int .u64 0), (.int .u64 0), (.int .u64 0), (.int .u64 0), (.int .u64 0), (.int .u64 0), (.int .u64 0), (.int .u64 0), (.int .u64 0), (.int .u64 0)] 78 hs3 fun b7 w5 hs6 => ?_
 refine zE 1 (hK1 _ _ ?_)
 refine W.sr fun K8 hK8 => ?_
 refine zR 1 ?_
 refine ops_R (runs_loadAgg (ad := ⟨b4, 0, none⟩) (cs := [(.int .i64 gw), (.int .i64 gi), (.int .i64 gb)]) (by kernel_rfl) (cells_sub (hs6.heapAt 1 rfl) rfl)) ?_
 refine zR 1 ?_
 refine zC00 hs6 (ifind_nil (gw := gw) (gi := gi) (gb := gb) (n_ := n_) B _) fun w9 hs11 => ?_
 refine zE 5 (hK8 _ _ ?_)
 refine W.seq fun K12 hK12 => ?_
 refine W.sr fun K13 hK13 => ?_
 refine zE 2 (hK13 _ _ ?_)
 refine W.cond_true true (by kernel_rfl) rfl ?_
 refine W.sr fun K14 hK14 => ?_
 refine zR 2 ?_
 refine ops_store (off := 0) (cs := [(.int .u64 0), (.int .u64 0), (.int .u64 0), (.int .u64 0), (.int .u64 0), (.int .u64 0), (.int .u64 0), (.int .u64 0), (.int .u64 0), (.int .u64 0)]) (vs := [(.int .u64 0), (.int .u64 0), (.int .u64 0), (.int .u64 0), (.int .u64 0), (.int .u64 0), (.int .u64 0), (.int .u64 0), (.int .u64 0), (.int .u64 0)]) hs11 (by kernel_rfl) (by simp) rfl (fun w15 hs16 => ?_)
 have hs17 : St B w [] w15 [blk b7 (.cells [(.int .u64 0), (.int .u64 0), (.int .u64 0), (.int .u64 0), (.int .u64 0), (.int .u64 0), (.int .u64 0), (.int .u64 0), (.int .u64 0), (.int .u64 0)].toArray 78 (0, 0)), blk b4 (.cells [(.int .i64 gw), (.int .i64 gi), (.int .i64 gb)].toArray 23 (0, 0))] := hs16
 refine zE 1 (hK14 _ _ ?_)
 refine W.ret (ret_seq ?_)
 have hs18 := St.tk0 hs17
 refine ret_of (.tuple #[(.agg #[(.int .u64 0), (.int .u64 0), (.int .u64 0), (.int .u64 0), (.int .u64 0), (.int .u64 0), (.int .u64 0), (.int .u64 0), (.int .u64 0), (.int .u64 0)]), (.int .i64 2)]) (results_cell2 (ad := ⟨b7, 0, none⟩) (cs := [(.int .u64 0), (.int .u64 0), (.int .u64 0), (.int .u64 0), (.int .u64 0), (.int .u64 0), (.int .u64 0), (.int .u64 0), (.int .u64 0), (.int .u64 0)]) rfl (by kernel_rfl) (by kernel_rfl) (by kernel_rfl) (cells_sub (hs17.heapAt 0 rfl) rfl)) ⟨_, ⟨rfl, rfl⟩, hs18⟩



end Go.Proofs.YtmmclabkkigiaaaDoor

set_option maxRecDepth 20000
set_option maxHeartbeats 1000000
namespace Go.Proofs.YtmmclabkkigiaaaDoor
open Go Go.RowKit
set_option linter.unusedSimpArgs false
set_option linter.unusedVariables false

theorem bof_ok {vb : Nat} {img : List Int} {l : List (Int × Int)} {gw gi gb n_ : Int} (B : Nat) (w : World) (hv : ViewAt (ptr vb) img l w) (hP : (igetM img l gw gi gb n_).2 = 0) : Spec Tryd.prog 11 #[(.pointer (some ⟨vb, 0, none⟩)), (.agg #[(.int .i64 gw), (.int .i64 gi), (.int .i64 gb)]), (.int .i64 n_)] B w [] (fun v H' => ∃ mb, v = .tuple #[ptr mb, .int .i64 0] ∧ H' = [blk mb (.cells [(.pointer (some ⟨vb, 0, none⟩)), (.int .i64 gw), (.int .i64 gi), (.int .i64 gb), (.int .i64 n_)].toArray 85 (0, 0))]) := by
 refine spec_Q Tryd.func11 rfl fun hs => ?_
 refine W.sr fun K1 hK1 => ?_
 refine zN [(.int .i64 gw), (.int .i64 gi), (.int .i64 gb)] 23 hs fun b4 w2 hs3 => ?_
 refine zE 2 (hK1 _ _ ?_)
 refine W.sr fun K5 hK5 => ?_
 refine zR 1 ?_
 refine ops_R (runs_loadAgg (ad := ⟨b4, 0, none⟩) (cs := [(.int .i64 gw), (.int .i64 gi), (.int .i64 gb)]) (by kernel_rfl) (cells_sub (hs3.heapAt 0 rfl) rfl)) ?_
 refine zR 1 ?_
 refine zC00 hs3 (ig_spec (gw := gw) (gi := gi) (gb := gb) (n_ := n_) (hv := (viewAt_old hs3 hv)) B _) fun w6 hs8 => ?_
 refine zR 3 ?_
 refine zN [(.int .u64 0), (.int .u64 0), (.int .u64 0), (.int .u64 0), (.int .u64 0), (.int .u64 0), (.int .u64 0), (.int .u64 0), (.int .u64 0), (.int .u64 0)] 78 hs8 fun b11 w9 hs10 => ?_
 refine ops_store (off := 0) (cs := [(.int .u64 0), (.int .u64 0), (.int .u64 0), (.int .u64 0), (.int .u64 0), (.int .u64 0), (.int .u64 0), (.int .u64 0), (.int .u64 0), (.int .u64 0)]) (vs := [(.int .u64 ((igetM img l gw gi gb n_).1.k)), (.int .u64 ((igetM img l gw gi gb n_).1.l)), (.int .u64 ((igetM img l gw gi gb n_).1.o)), (.int .u64 ((igetM img l gw gi gb n_).1.s)), (.int .u64 ((igetM img l gw gi gb n_).1.a)), (.int .u64 ((igetM img l gw gi gb n_).1.b)), (.int .u64 ((igetM img l gw gi gb n_).1.c)), (.int .u64 ((igetM img l gw gi gb n_).1.d)), (.int .u64 ((igetM img l gw gi gb n_).1.e)), (.int .u64 ((igetM img l gw gi gb n_).1.m))]) hs10 (by kernel_rfl) (by simp) rfl (fun w12 hs13 => ?_)
 have hs14 : St B w [] w12 [blk b11 (.cells [(.int .u64 ((igetM img l gw gi gb n_).1.k)), (.int .u64 ((igetM img l gw gi gb n_).1.l)), (.int .u64 ((igetM img l gw gi gb n_).1.o)), (.int .u64 ((igetM img l gw gi gb n_).1.s)), (.int .u64 ((igetM img l gw gi gb n_).1.a)), (.int .u64 ((igetM img l gw gi gb n_).1.b)), (.int .u64 ((igetM img l gw gi gb n_).1.c)), (.int .u64 ((igetM img l gw gi gb n_).1.d)), (.int .u64 ((igetM img l gw gi gb n_).1.e)), (.int .u64 ((igetM img l gw gi gb n_).1.m))].toArray 78 (0, 0)), blk b4 (.cells [(.int .i64 gw), (.int .i64 gi), (.int .i64 gb)].toArray 23 (0, 0))] := hs13
 refine zE 1 (hK5 _ _ ?_)
 refine W.seq fun K15 hK15 => ?_
 refine W.sr fun K16 hK16 => ?_
 refine zE 2 (hK16 _ _ ?_)
 refine W.cond (!decide ((igetM img l gw gi gb n_).2 = 0)) (by kernel_rfl) (fun h17 => ?_) (fun h17 => ?_)
 ·
  have h17p : ¬ ((igetM img l gw gi gb n_).2 = 0) := of_decide_eq_false (bnot_true h17)
  refine W.sr fun K18 hK18 => ?_
  refine zE 3 (hK18 _ _ ?_)
  refine W.ret (ret_seq ?_)
  exact absurd hP (by assumption)
 ·
  have h17p : (igetM img l gw gi gb n_).2 = 0 := of_decide_eq_true (bnot_false h17)
  refine W.skip ?_
  refine hK15 _ _ ?_
  refine W.sr fun K19 hK19 => ?_
  refine zR 1 ?_
  refine ops_R (runs_loadAgg (ad := ⟨b4, 0, none⟩) (cs := [(.int .i64 gw), (.int .i64 gi), (.int .i64 gb)]) (by kernel_rfl) (cells_sub (hs14.heapAt 1 rfl) rfl)) ?_
  refine zR 2 ?_
  refine zN [(.pointer (some ⟨vb, 0, none⟩)), (.int .i64 gw), (.int .i64 gi), (.int .i64 gb), (.int .i64 n_)] 85 hs14 fun b22 w20 hs21 => ?_
  refine zE 2 (hK19 _ _ ?_)
  refine W.ret ?_
  have hs23 := St.tk1 hs21
  refine ret_of (.tuple #[(.pointer (some ⟨b22, 0, none⟩)), (.int .i64 0)]) (by kernel_rfl) ⟨_, ⟨b22, rfl, rfl⟩, hs23⟩

theorem bof_err {vb : Nat} {img : List Int} {l : List (Int × Int)} {gw gi gb n_ : Int} (B : Nat) (w : World) (hv : ViewAt (ptr vb) img l w) (hN : ¬ ((igetM img l gw gi gb n_).2 = 0)) : Spec Tryd.prog 11 #[(.pointer (some ⟨vb, 0, none⟩)), (.agg #[(.int .i64 gw), (.int .i64 gi), (.int .i64 gb)]), (.int .i64 n_)] B w [] (fun v H' => v = .tuple #[.pointer none, .int .i64 ((igetM img l gw gi gb n_).2)] ∧ H' = []) := by
 refine spec_Q Tryd.func11 rfl fun hs => ?_
 refine W.sr fun K1 hK1 => ?_
 refine zN [(.int .i64 gw), (.int .i64 gi), (.int .i64 gb)] 23 hs fun b4 w2 hs3 => ?_
 refine zE 2 (hK1 _ _ ?_)
 refine W.sr fun K5 hK5 => ?_
 refine zR 1 ?_
 refine ops_R (runs_loadAgg (ad := ⟨b4, 0, none⟩) (cs := [(.int .i64 gw), (.int .i64 gi), (.int .i64 gb)]) (by kernel_rfl) (cells_sub (hs3.heapAt 0 rfl) rfl)) ?_
 refine zR 1 ?_
 refine zC00 hs3 (ig_spec (gw := gw) (gi := gi) (gb := gb) (n_ := n_) (hv := (viewAt_old hs3 hv)) B _) fun w6 hs8 => ?_
 refine zR 3 ?_
 refine zN [(.int .u64 0), (.int .u64 0), (.int .u64 0), (.int .u64 0), (.int .u64 0), (.int .u64 0), (.int .u64 0), (.int .u64 0), (.int .u64 0), (.int .u64 0)] 78 hs8 fun b11 w9 hs10 => ?_
 refine ops_store (off := 0) (cs := [(.int .u64 0), (.int .u64 0), (.int .u64 0), (.int .u64 0), (.int .u64 0), (.int .u64 0), (.int .u64 0), (.int .u64 0), (.int .u64 0), (.int .u64 0)]) (vs := [(.int .u64 ((igetM img l gw gi gb n_).1.k)), (.int .u64 ((igetM img l gw gi gb n_).1.l)), (.int .u64 ((igetM img l gw gi gb n_).1.o)), (.int .u64 ((igetM img l gw gi gb n_).1.s)), (.int .u64 ((igetM img l gw gi gb n_).1.a)), (.int .u64 ((igetM img l gw gi gb n_).1.b)), (.int .u64 ((igetM img l gw gi gb n_).1.c)), (.int .u64 ((igetM img l gw gi gb n_).1.d)), (.int .u64 ((igetM img l gw gi gb n_).1.e)), (.int .u64 ((igetM img l gw gi gb n_).1.m))]) hs10 (by kernel_rfl) (by simp) rfl (fun w12 hs13 => ?_)
 have hs14 : St B w [] w12 [blk b11 (.cells [(.int .u64 ((igetM img l gw gi gb n_).1.k)), (.int .u64 ((igetM img l gw gi gb n_).1.l)), (.int .u64 ((igetM img l gw gi gb n_).1.o)), (.int .u64 ((igetM img l gw gi gb n_).1.s)), (.int .u64 ((igetM img l gw gi gb n_).1.a)), (.int .u64 ((igetM img l gw gi gb n_).1.b)), (.int .u64 ((igetM img l gw gi gb n_).1.c)), (.int .u64 ((igetM img l gw gi gb n_).1.d)), (.int .u64 ((igetM img l gw gi gb n_).1.e)), (.int .u64 ((igetM img l gw gi gb n_).1.m))].toArray 78 (0, 0)), blk b4 (.cells [(.int .i64 gw), (.int .i64 gi), (.int .i64 gb)].toArray 23 (0, 0))] := hs13
 refine zE 1 (hK5 _ _ ?_)
 refine W.seq fun K15 hK15 => ?_
 refine W.sr fun K16 hK16 => ?_
 refine zE 2 (hK16 _ _ ?_)
 refine W.cond (!decide ((igetM img l gw gi gb n_).2 = 0)) (by kernel_rfl) (fun h17 => ?_) (fun h17 => ?_)
 ·
  have h17p : ¬ ((igetM img l gw gi gb n_).2 = 0) := of_decide_eq_false (bnot_true h17)
  refine W.sr fun K18 hK18 => ?_
  refine zE 3 (hK18 _ _ ?_)
  refine W.ret (ret_seq ?_)
  have hs19 := St.tk0 hs14
  refine ret_of (.tuple #[(.pointer none), (.int .i64 ((igetM img l gw gi gb n_).2))]) (by kernel_rfl) ⟨_, ⟨rfl, rfl⟩, hs19⟩
 ·
  have h17p : (igetM img l gw gi gb n_).2 = 0 := of_decide_eq_true (bnot_false h17)
  refine W.skip ?_
  refine hK15 _ _ ?_
  refine W.sr fun K20 hK20 => ?_
  refine zR 1 ?_
  refine ops_R (runs_loadAgg (ad := ⟨b4, 0, none⟩) (cs := [(.int .i64 gw), (.int .i64 gi), (.int .i64 gb)]) (by kernel_rfl) (cells_sub (hs14.heapAt 1 rfl) rfl)) ?_
  refine zR 2 ?_
  refine zN [(.pointer (some ⟨vb, 0, none⟩)), (.int .i64 gw), (.int .i64 gi), (.int .i64 gb), (.int .i64 n_)] 85 hs14 fun b23 w21 hs22 => ?_
  refine zE 2 (hK20 _ _ ?_)
  refine W.ret ?_
  exact absurd (by assumption) hN

end Go.Proofs.YtmmclabkkigiaaaDoor

namespace Go.Proofs.YtmmclabkkigiaaaDoor
open Go Go.RowKit
set_option linter.unusedVariables false
set_option linter.unusedSimpArgs false

section
variable {gi gb : Int} {img : List Int} {l : List (Int × Int)} {n : Int} {O : Nat → Prop} {hd : Hd} {f : Nat → Int} {c : Int}
theorem Dk.flat (h : Dk gi gb img l) : Dk gi gb (vflat img l) [] := by
  have hl := vflat_length img l
  have := h.g
  have := h.len
  exact ⟨h.may, by rw [hl]; exact h.len, VR.nil (u64_flat h.ok h.vr), VOk.nil (by omega)⟩
theorem Mp.flat (h : Mp gi gb img l n O hd f c) : Mp gi gb (vflat img l) [] n O hd f c := by
  have e := fun k => vget_flat h.dk.ok k
  refine ⟨h.dk.flat, h.nr, h.hd, ?_, ?_, ?_, ?_, ?_, fun k hk => ?_, ?_, fun k k1 k2 => ?_, h.rf, h.rc, h.inj, h.fc, fun b hb => ?_, h.od⟩
  · rw [e]; exact h.w0
  · rw [e]; exact h.w1
  · rw [e]; exact h.w2
  · rw [e]; exact h.w3
  · rw [e]; exact h.w9
  · rw [e]; exact h.wd k hk
  · rw [e]; exact h.w8
  · rw [e]; exact h.we k k1 k2
  · rw [mbits_flat h.dk.ok]; exact h.bits b hb
theorem Dk.start (hm : May 1 gi gb) (hl : (img.length : Int) = 488 + 16 * gi + 8 * gb) (hu : ∀ x ∈ img, U64 x) : Dk gi gb img [] := by
  have := may_out hm
  exact ⟨hm, hl, VR.nil hu, VOk.nil (by omega)⟩
theorem Dk.fmt (hm : May 1 gi gb) : Dk gi gb (fmtW 1 gi gb) [] := by
  have := fmtW_len 1 gi gb
  have := words_may hm
  have := may_out hm
  exact Dk.start hm (by omega) fmtW_u64
theorem Mp.fmt (hm : May 1 gi gb) : Mp gi gb (fmtW 1 gi gb) [] 1 (fun _ => False) ⟨2, 1, 0, 0, 0⟩ (fun _ => 0) 0 := by
  have hm_ := may_out hm
  have hw := words_may hm
  have w : ∀ z : Int, 0 ≤ z → z < 488 + 16 * gi + 8 * gb → 488 ≤ z → vget (fmtW 1 gi gb) [] z = if z = 505 then 1 else if z = 504 then 2 else 0 := fun z h0 h1 h2 => by
    rw [fmt_vget hm (by omega)]
    simp only [Int.mul_one, Int.reduceAdd, Int.reduceMul]
    rw [if_neg (show ¬ z = 480 by omega), if_neg (show ¬ z = 472 by omega), if_neg (show ¬ z = 3 by omega), if_neg (show ¬ z = 2 by omega), if_neg (show ¬ z = 1 by omega), if_neg (show ¬ z = 0 by omega)]
  refine ⟨Dk.fmt hm, by omega, ⟨show (0 : Int) < gi by omega, ⟨show (1 : Int) ≤ 65536 by omega, show (0 : Int) ≤ 16 by omega, show (0 : Int) ≤ 768 by omega⟩, .inr ⟨rfl, rfl⟩⟩, ?_, ?_, ?_, ?_, ?_, fun k hk => ?_, ?_, fun k _ _ => by rw [if_pos rfl], fun k _ => ⟨Int.le_refl 0, show (0 : Int) < gb by omega⟩, by omega, fun j k _ _ h => absurd rfl h, fun k _ h => absurd rfl h, fun b hb => ?_, fun b hb => hb.elim⟩
  · rw [w _ (by omega) (by omega) (by omega), if_neg (by omega), if_pos (by omega)]
  · rw [w _ (by omega) (by omega) (by omega), if_pos (by omega)]
  · rw [w _ (by omega) (by omega) (by omega), if_neg (by omega), if_neg (by omega)]
  · rw [w _ (by omega) (by omega) (by omega), if_neg (by omega), if_neg (by omega)]
  · rw [w _ (by omega) (by omega) (by omega), if_neg (by omega), if_neg (by omega)]
  · rw [w _ (by omega) (by omega) (by omega), if_neg (by omega), if_neg (by omega)]
  · rw [w _ (by omega) (by omega) (by omega), if_neg (by omega), if_neg (by omega)]
  · have eb := fmt_bbits hm hb
    simp only [Int.reduceMul, Int.reduceAdd] at eb
    rw [eb, decide_eq_true_iff]
    constructor
    · exact .inl
    · rintro (q | ⟨_, _, q⟩ | q | q)
      · exact q
      · omega
      · omega
      · exact q.elim
theorem Mp.free (h : Mp gi gb img l n O hd f c) : afree_M img l gi gb 472 480 = some (gi - (cnt (mbits img l 472) gi.toNat : Nat), gb - (cnt (mbits img l 480) gb.toNat : Nat)) := by
  have hg := h.dk.g
  have := afree_ok (img := img) (l := l) (gi := gi) (gb := gb) (ia := 472) (ba := 480) h.dk.vr (by omega) (by omega) (by omega) (by omega)
  unfold freeF at this
  exact this
end
end Go.Proofs.YtmmclabkkigiaaaDoor

namespace Go.Proofs.YtmmclabkkigiaaaDoor
open Go Go.RowKit
set_option linter.unusedVariables false
section
variable {M : Bool} {P : Program} {ops : Array Oper} {i : Nat} {s : Fs} {w w' : World} {K : Fs → World → Prop}
theorem resD_three {P : Program} {s : Fs} {w : World} {fn : Func} {r q p : ResultVar} {v u z : Value} (hr : fn.results = #[r, q, p]) (h : ResAt P s w r v) (h' : ResAt P s w q u) (h'' : ResAt P s w p z) : (resD fn s).run P w = .ok (.tuple #[v, u, z]) w := by
  have h1 := h.run
  have h2 := h'.run
  have h3 := h''.run
  unfold resD
  rw [hr]
  simp [Sem.run_bind, h1, h2, h3]

theorem kU8_cells (xs : List Int) : kU8.cells xs = xs.map (Value.int .u8) := by
  induction xs with
  | nil => rfl
  | cons x xs ih => rw [Kind.cells_cons, ih]; rfl
def strConvQ (P : Program) (ops : Array Oper) (i : Nat) (s : Fs) : Option (Option Addr × Nat × Nat) :=
  match opQ ops i s with
  | some o => match o.op with
    | .convert src dst x => match P.underlying src, P.underlying dst, evS s x with
      | some (.slice e), some .string, .slice a n c => match P.underlying e with
        | some (.int .u8) => some (a, n, c)
        | _ => none
      | _, _, _ => none
    | _ => none
  | none => none
theorem runs_bytesStr {a : Option Addr} {n c : Nat} {xs : List Int} (hc : CellsAt a (kU8.cells xs) w) (hn : n = xs.length) (hq : strConvQ P ops i s = some (a, n, c)) : RunsTo P ops i s w (.string (strOfNums xs)) w := by
  subst hn
  unfold strConvQ at hq
  split at hq
  · rename_i o ho
    split at hq
    · rename_i src dst x hop
      refine ⟨_, ho, ?_⟩
      split at hq
      · rename_i e a' n' c' hsrc hdst hx
        split at hq
        · rename_i he
          simp only [Option.some.injEq, Prod.mk.injEq] at hq
          obtain ⟨rfl, rfl, rfl⟩ := hq
          have hr : (convert src dst (.slice a' xs.length c')).run P w = .ok (.string (strOfNums xs)) w := by
            cases a' with
            | none =>
              have h0 := cells_none kU8 hc
              subst h0
              exact run_convert_bytes_nil w src e hsrc he _ _ dst hdst
            | some ad =>
              have hl : (loadCells ad xs.length).run P w = .ok (xs.map (Value.int .u8)).toArray w := by
                have h := run_loadCells_list (P := P) w ad (xs.map (Value.int .u8)) (fun j v hj => hc j v (by rw [kU8_cells]; exact hj))
                simpa using h
              rw [run_convert_bytes_string w src dst e _ _ _ hsrc he hdst, run_bytesToString w _ _ _ xs hl, foldl_push_bytes]
              simp [strOfNums, ByteArray.empty, ByteArray.emptyWithCapacity]
              rfl
          simp only [execOp, hop, hx, Sem.run_bind, Result.andThen_ok, hr, Sem.run_pure]
        · cases hq
      · cases hq
    · cases hq
  · cases hq
end
end Go.Proofs.YtmmclabkkigiaaaDoor

namespace Go.Proofs.YtmmclabkkigiaaaDoor
open Go Go.RowKit
set_option linter.unusedVariables false
@[simp] theorem beq_bytes (a b : ByteArray) : ((a == b) = true) ↔ a = b := by
  constructor
  · intro h
    cases a with | mk x => cases b with | mk y =>
    have : (x == y) = true := h
    rw [beq_iff_eq.1 this]
  · rintro rfl
    cases a with | mk x => exact (show (x == x) = true from beq_self_eq_true x)
@[simp] theorem beq_bytes_false (a b : ByteArray) : ((a == b) = false) ↔ ¬ (a = b) := by
  rw [← beq_bytes, Bool.not_eq_true]
section
variable {P : Program} {ops : Array Oper} {i : Nat} {s : Fs} {w : World}
def sbyte (s : ByteArray) (k : Int) : Int := (((s[k.toNat]?).getD 0).toNat : Int)
def strIdxQ (P : Program) (ops : Array Oper) (i : Nat) (s : Fs) : Option (ByteArray × Int) :=
  match opQ ops i s with
  | some o => match o.op with
    | .index t x y => match P.underlying t, evS s x, evS s y with
      | some .string, .string b, .int _ k => some (b, k)
      | _, _, _ => none
    | _ => none
  | none => none
theorem runs_strIdx {b : ByteArray} {k : Int} (hk : 0 ≤ k ∧ k < (b.size : Int)) (hq : strIdxQ P ops i s = some (b, k)) : RunsTo P ops i s w (.int .u8 (sbyte b k)) w := by
  unfold strIdxQ at hq
  split at hq
  · rename_i o ho
    split at hq
    · rename_i t x y hop
      refine ⟨_, ho, ?_⟩
      split at hq
      · rename_i b' kk k' hu hx hy
        simp only [Option.some.injEq, Prod.mk.injEq] at hq
        obtain ⟨rfl, rfl⟩ := hq
        have hun := run_underlying (P := P) hu w
        have hn : k'.toNat < b'.size := by omega
        have hg : b'[k'.toNat]? = some b'[k'.toNat] := getElem?_pos b' _ hn
        simp only [execOp, hop, hx, hy, Instr.index, asIntOf, Sem.run_bind, Sem.run_pure, Result.andThen_ok, hun, if_pos hk.1, hg, sbyte, Option.getD_some]
      · cases hq
    · cases hq
  · cases hq
end
section
variable {α : Type} (K : Kind α) {M : Bool} {P : Program} {ops : Array Oper} {i : Nat} {s : Fs} {w : World} {Q : Fs → World → Prop} {B : Nat} {w0 : World} {l0 : List Nat} {H R : List Asn}
end
end Go.Proofs.YtmmclabkkigiaaaDoor

namespace Go.Proofs.YtmmclabkkigiaaaDoor
open Go Go.RowKit
set_option linter.unusedVariables false

def strNums (s : ByteArray) : List Int := s.data.toList.map fun b => (b.toNat : Int)
theorem strNums_len (s : ByteArray) : (strNums s).length = s.size := by simp [strNums]
section
variable {M : Bool} {P : Program} {ops : Array Oper} {i : Nat} {s : Fs} {w : World} {K : Fs → World → Prop}
def strBytesQ (P : Program) (ops : Array Oper) (i : Nat) (s : Fs) : Option (ByteArray × TypeId) :=
  match opQ ops i s with
  | some o => match o.op with
    | .convert src dst x => match P.underlying src, P.underlying dst, evS s x with
      | some .string, some (.slice e), .string b => match P.underlying e with
        | some (.int .u8) => some (b, e)
        | _ => none
      | _, _, _ => none
    | _ => none
  | none => none
theorem ops_strBytes {B : Nat} {w0 : World} {l0 : List Nat} {R : List Asn} {b : ByteArray} {e : TypeId} (hs : St B w0 l0 w R) (hq : strBytesQ P ops i s = some (b, e))
    (hk : ∀ (n c : Nat) (C : Array Value) (w' : World), b.size ≤ c → (∀ j, j < b.size → C[j]? = some (.int .u8 ((strNums b).getD j 0))) → St B w0 l0 w' (blk n (.cells C e (C.size, C.size + 1)) :: R) →
      OpsAt M P ops (i + 1) (putS s (dstOf ops i) (.slice (some ⟨n, 0, none⟩) b.size c)) w' K) : OpsAt M P ops i s w K := by
  unfold strBytesQ at hq
  split at hq
  · rename_i o ho
    split at hq
    · rename_i src dst x hop
      split at hq
      · rename_i e' b' hsrc hdst hx
        split at hq
        · rename_i he
          simp only [Option.some.injEq, Prod.mk.injEq] at hq
          obtain ⟨rfl, rfl⟩ := hq
          have hr := Lib.run_convert_string_bytes (P := P) w src dst e' b' hsrc hdst he
          have hB := hs.size
          refine ops_runs ho (v := .slice (some ⟨w.heap.size, 0, none⟩) b'.size (grownCap w b'.size 0 e')) (w' := Lib.bytesWorld w e' b') ?_ (hk _ _ (Lib.bytesCells w e' b') _ ?_ ?_ ?_)
          · simp only [execOp, hop, hx, Sem.run_bind, Result.andThen_ok, Sem.run_pure, hr]
          · exact grownCap_ge w b'.size 0 e'
          · intro j hj
            have := Lib.bytesWorld_cell w e' b' j hj
            have hn := Lib.bytesWorld_at_new w e' b'
            simp only [World.cell?, hn] at this
            simpa [strNums, List.getD, hj] using this
          · refine St.step0 (post := [blk w.heap.size (.cells (Lib.bytesCells w e' b') e' ((Lib.bytesCells w e' b').size, (Lib.bytesCells w e' b').size + 1))]) hs ⟨[w.heap.size], ⟨[w.heap.size], [], ⟨hB, Lib.bytesWorld_at_new w e' b', rfl⟩, fun b => by simp, fun b _ => by simp, by simp⟩, ?_⟩
            refine ⟨by simp [Lib.bytesWorld, World.freeze, World.alloc, World.drew, -World.alloc_eq, -World.drew_eq], by simp [Lib.bytesWorld, World.freeze, World.alloc, World.drew, -World.alloc_eq, -World.drew_eq], by simp [Lib.bytesWorld, World.freeze, World.alloc, World.drew, -World.alloc_eq, -World.drew_eq], by rw [Lib.bytesWorld_size]; omega, fun b hb _ => Lib.bytesWorld_at_old w e' b' b hb, fun b hb => .inr ?_⟩
            simp only [List.mem_singleton] at hb
            omega
        · cases hq
      · cases hq
    · cases hq
  · cases hq
end
end Go.Proofs.YtmmclabkkigiaaaDoor

namespace Go.Proofs.YtmmclabkkigiaaaDoor
open Go Go.RowKit

section
variable {P : Program} {ops : Array Oper} {i : Nat} {s : Fs} {w : World}
def intQ : Value → Option Int
  | .int _ k => some k
  | _ => none
theorem intQ_some {v : Value} {z : Int} (h : intQ v = some z) : ∃ k, v = .int k z := by
  unfold intQ at h
  split at h
  · rename_i k _
    cases h
    exact ⟨k, rfl⟩
  · cases h
def slice3Q (P : Program) (ops : Array Oper) (i : Nat) (s : Fs) : Option ((Option Addr × Nat × Nat) × Int × Int × Int × Nat) :=
  match opQ ops i s with
  | some o => match o.op with
    | .slice t x (some y1) (some y2) (some y3) => match P.underlying t, evS s x with
      | some (.slice e), .slice a n c => match P.info? e, intQ (evS s y1), intQ (evS s y2), intQ (evS s y3) with
        | some f, some l, some h, some m => some ((a, n, c), l, h, m, f.size)
        | _, _, _, _ => none
      | _, _ => none
    | _ => none
  | none => none
theorem runs_slice3 {a : Option Addr} {n c size : Nat} (k m z : Nat) (h1 : k ≤ m) (h2 : m ≤ z) (h3 : z ≤ c) (hq : slice3Q P ops i s = some ((a, n, c), (k : Int), (m : Int), (z : Int), size)) :
    RunsTo P ops i s w (.slice (if z = k then a else a.map (·.add (k * size))) (m - k) (z - k)) w := by
  unfold slice3Q at hq
  split at hq
  · rename_i o ho
    split at hq
    · rename_i t x y1 y2 y3 hop
      refine ⟨_, ho, ?_⟩
      split at hq
      · rename_i e a' n' c' hu hx
        split at hq
        · rename_i f l h mx hf hl hh hm
          simp only [Option.some.injEq, Prod.mk.injEq] at hq
          obtain ⟨⟨rfl, rfl, rfl⟩, rfl, rfl, rfl, rfl⟩ := hq
          obtain ⟨q1, e1⟩ := intQ_some hl
          obtain ⟨q2, e2⟩ := intQ_some hh
          obtain ⟨q3, e3⟩ := intQ_some hm
          have hso : (sizeOf e).run P w = .ok f.size w := by simp [sizeOf, typeInfo, hf]
          have hun := run_underlying (P := P) hu w
          have hb : ∀ (q : IntKind) (z y : Nat) (code : BoundsCode), z ≤ y → (Instr.sliceBound (.int q (z : Int)) y code).run P w = .ok z w := by
            intro q z y code hzy
            have : (0 : Int) ≤ (z : Int) ∧ (z : Int) ≤ (y : Int) := ⟨by omega, by omega⟩
            simp only [Instr.sliceBound, asIntOf, Sem.run_bind, Sem.run_pure, Result.andThen_ok, if_pos this, Int.toNat_natCast]
          have hbounds : (Instr.sliceBounds true n' c' (some (.int q1 (k : Int))) (some (.int q2 (m : Int))) (some (.int q3 (z : Int)))).run P w = .ok (k, m, z) w := by
            unfold Instr.sliceBounds
            simp only [Sem.run_bind, Sem.run_pure, Result.andThen_ok, hb q3 z c' _ h3, hb q2 m z _ h2, hb q1 k m _ h1]
          have hxx : (Instr.sliceAt t (.slice a' n' c') (some (.int q1 (k : Int))) (some (.int q2 (m : Int))) (some (.int q3 (z : Int)))).run P w = .ok (.slice (if z = k then a' else a'.map (·.add (k * f.size))) (m - k) (z - k)) w := by
            unfold Instr.sliceAt
            simp only [Sem.run_bind, hun, Result.andThen_ok]
            unfold Instr.slice
            simp only [Sem.run_bind, hun, Result.andThen_ok, hbounds, hso, Sem.run_pure]
          simp only [execOp, hop, hx, Option.map_some, e1, e2, e3, Sem.run_bind, hxx, Result.andThen_ok, Sem.run_pure]
        · cases hq
      · cases hq
    · cases hq
  · cases hq
end
end Go.Proofs.YtmmclabkkigiaaaDoor

namespace Go.Proofs.YtmmclabkkigiaaaDoor
open Go Go.RowKit
set_option linter.unusedVariables false
set_option linter.unusedSimpArgs false

section
variable {P : Program} {ops : Array Oper} {i : Nat} {s : Fs} {w : World}
def partA (a : Option Addr) (c k size : Nat) : Option Addr := if c = k then a else a.map (·.add (k * size))
theorem runs_part {a : Option Addr} {n c size : Nat} {lo hi : Int} (k m n' : Nat) (hlo : lo = (k : Int)) (hhi : hi = (m : Int)) (h1 : k ≤ m) (h2 : m ≤ c) (e : m - k = n') (hq : sliceQ P ops i s = some ((a, n, c), some lo, some hi, size)) :
    RunsTo P ops i s w (.slice (partA a c k size) n' (c - k)) w := by
  subst e
  exact runs_slice k m (.inl (by rw [hlo])) (.inl (by rw [hhi])) h1 h2 hq
theorem runs_part3 {a : Option Addr} {n c size : Nat} {lo hi mx_ : Int} (k m n' : Nat) (hlo : lo = (k : Int)) (hhi : hi = (m : Int)) (hmx : mx_ = (m : Int)) (h1 : k ≤ m) (h2 : m ≤ c) (e : m - k = n') (hq : slice3Q P ops i s = some ((a, n, c), lo, hi, mx_, size)) :
    RunsTo P ops i s w (.slice (partA a m k size) n' (m - k)) w := by
  subst e hlo hhi hmx
  exact runs_slice3 k m m h1 (Nat.le_refl _) h2 hq
theorem part_len {α : Type} {xs : List α} {k m : Nat} (h1 : k ≤ m) (h2 : m ≤ xs.length) : m - k = ((xs.drop k).take (m - k)).length := by
  rw [List.length_take, List.length_drop]
  omega
theorem part_cells {α : Type} (K : Kind α) {a : Option Addr} {c k m : Nat} {xs : List α} (h : CellsAt a (K.cells xs) w) (h1 : k ≤ m) (h2 : m ≤ xs.length) (h3 : m ≤ c) : CellsAt (partA a c k K.size) (K.cells ((xs.drop k).take (m - k))) w := by
  unfold partA
  by_cases e : c = k
  · rw [if_pos e, show m - k = 0 by omega, List.take_zero]
    cases a with
    | none => exact rfl
    | some ad =>
      intro j v hj
      rw [show K.cells [] = [] from rfl] at hj
      simp at hj
  · rw [if_neg e]
    cases a with
    | none =>
      have hx : xs = [] := by
        have hl := K.length xs
        rw [show K.cells xs = [] from h] at hl
        have hs := K.pos
        cases xs with
        | nil => rfl
        | cons x xs => simp only [List.length_nil, List.length_cons, Nat.add_mul, Nat.one_mul] at hl; omega
      subst hx
      simp only [List.drop_nil, List.take_nil, Option.map_none]
      exact rfl
    | some ad =>
      intro j v hj
      show w.cell? ((ad.add (k * K.size)).add j) = some v
      rw [add_add]
      refine h _ _ ?_
      have e1 : K.cells xs = K.cells (xs.take k) ++ (K.cells ((xs.drop k).take (m - k)) ++ K.cells ((xs.drop k).drop (m - k))) := by
        rw [← K.cells_append, ← K.cells_append, List.take_append_drop, List.take_append_drop]
      have hl : (K.cells (xs.take k)).length = k * K.size := by
        rw [K.length, List.length_take]
        congr 1
        omega
      have hj2 : j < (K.cells ((xs.drop k).take (m - k))).length := (List.getElem?_eq_some_iff.1 hj).1
      rw [e1, List.getElem?_append_right (by omega), hl, Nat.add_sub_cancel_left, List.getElem?_append_left hj2]
      exact hj
theorem cells_bytes {b : Nat} {C : Array Value} {e : TypeId} {fz : Nat × Nat} {tx : ByteArray} (h : w.heap[b]? = some (.cells C e fz)) (hC : ∀ j, j < tx.size → C[j]? = some (.int .u8 ((strNums tx).getD j 0))) : CellsAt (some ⟨b, 0, none⟩) (kU8.cells (strNums tx)) w := by
  intro j v hj
  have hlen := strNums_len tx
  have hcl : (kU8.cells (strNums tx)).length = tx.size := by rw [kU8.length, hlen]; exact Nat.mul_one _
  have hj2 : j < tx.size := by
    have := (List.getElem?_eq_some_iff.1 hj).1
    omega
  have e1 : (⟨b, 0, none⟩ : Addr).add j = ⟨b, j, none⟩ := by unfold Addr.add; split <;> simp_all
  rw [e1]
  simp only [World.cell?, h]
  rw [hC j hj2]
  have e2 : kU8.cells (strNums tx) = (strNums tx).map fun z => Value.int .u8 z := by
    generalize strNums tx = ys
    induction ys with
    | nil => rfl
    | cons y ys ih =>
      show [Value.int .u8 y] ++ kU8.cells ys = _
      rw [ih]
      rfl
  rw [e2, List.getElem?_map, List.getElem?_eq_getElem (by omega)] at hj
  simp only [Option.map_some, Option.some.injEq] at hj
  rw [← hj]
  congr 2
  simp [List.getD, show j < (strNums tx).length by omega]

theorem bounds_of {isS : Bool} {len cap k m : Nat} {lo hi : Option Value} (hlo : (lo = none ∧ k = 0) ∨ ∃ q, lo = some (.int q (k : Int))) (hhi : (hi = none ∧ m = len) ∨ ∃ q, hi = some (.int q (m : Int))) (h1 : k ≤ m) (h2 : m ≤ cap) :
    (Instr.sliceBounds isS len cap lo hi none).run P w = .ok (k, m, cap) w := by
  have hb : ∀ (q : IntKind) (z y : Nat) (code : BoundsCode), z ≤ y → (Instr.sliceBound (.int q (z : Int)) y code).run P w = .ok z w := by
    intro q z y code hzy
    have : (0 : Int) ≤ (z : Int) ∧ (z : Int) ≤ (y : Int) := ⟨by omega, by omega⟩
    simp only [Instr.sliceBound, asIntOf, Sem.run_bind, Sem.run_pure, Result.andThen_ok, if_pos this, Int.toNat_natCast]
  unfold Instr.sliceBounds
  rcases hlo with ⟨rfl, rfl⟩ | ⟨q, rfl⟩ <;> rcases hhi with ⟨rfl, rfl⟩ | ⟨q2, rfl⟩ <;> simp only [Sem.run_bind, Sem.run_pure, Result.andThen_ok, hb _ _ _ _ h1, hb _ _ _ _ h2]
def valInt : Option Value → Option (Option Int)
  | none => some none
  | some (.int _ k) => some (some k)
  | _ => none
theorem valInt_none {v : Option Value} (h : valInt v = some none) : v = none := by
  cases v with
  | none => rfl
  | some v => cases v <;> simp [valInt] at h
theorem valInt_some {v : Option Value} {z : Int} (h : valInt v = some (some z)) : ∃ q, v = some (.int q z) := by
  cases v with
  | none => simp [valInt] at h
  | some v => cases v <;> simp [valInt] at h; subst h; exact ⟨_, rfl⟩
def strSliceQ (P : Program) (ops : Array Oper) (i : Nat) (s : Fs) : Option (ByteArray × Option Int × Option Int) :=
  match opQ ops i s with
  | some o => match o.op with
    | .slice t x lo hi none => match P.underlying t, evS s x, valInt (lo.map (evS s)), valInt (hi.map (evS s)) with
      | some .string, .string b, some l, some h => some (b, l, h)
      | _, _, _, _ => none
    | _ => none
  | none => none
theorem runs_strSlice {b : ByteArray} {lo hi : Option Int} (k m : Nat) (hlo : lo = some (k : Int) ∨ lo = none ∧ k = 0) (hhi : hi = some (m : Int) ∨ hi = none ∧ m = b.size) (h1 : k ≤ m) (h2 : m ≤ b.size) (hq : strSliceQ P ops i s = some (b, lo, hi)) :
    RunsTo P ops i s w (.string (b.extract k m)) w := by
  unfold strSliceQ at hq
  split at hq
  · rename_i o ho
    split at hq
    · rename_i t x lo' hi' hop
      split at hq
      · rename_i b' l h hu hx hl hh
        simp only [Option.some.injEq, Prod.mk.injEq] at hq
        obtain ⟨rfl, rfl, rfl⟩ := hq
        refine ⟨_, ho, ?_⟩
        have hun := run_underlying (P := P) hu w
        have hlo2 : (lo'.map (evS s) = none ∧ k = 0) ∨ ∃ q, lo'.map (evS s) = some (.int q (k : Int)) := by
          rcases hlo with rfl | ⟨rfl, hk⟩
          · exact .inr (valInt_some hl)
          · exact .inl ⟨valInt_none hl, hk⟩
        have hhi2 : (hi'.map (evS s) = none ∧ m = b'.size) ∨ ∃ q, hi'.map (evS s) = some (.int q (m : Int)) := by
          rcases hhi with rfl | ⟨rfl, hk⟩
          · exact .inr (valInt_some hh)
          · exact .inl ⟨valInt_none hh, hk⟩
        have hb := bounds_of (P := P) (w := w) (isS := false) hlo2 hhi2 h1 h2
        have hxx : (Instr.sliceAt t (evS s x) (lo'.map (evS s)) (hi'.map (evS s)) none).run P w = .ok (.string (b'.extract k m)) w := by
          unfold Instr.sliceAt
          simp only [Sem.run_bind, hun, Result.andThen_ok, hx]
          unfold Instr.slice
          simp only [Sem.run_bind, hun, Result.andThen_ok, hb, Sem.run_pure, Option.isSome_none, Bool.false_eq_true, if_false]
        simp only [execOp, hop, Option.map_none, Sem.run_bind, hxx, Result.andThen_ok, Sem.run_pure]
      · cases hq
    · cases hq
  · cases hq
def strAddQ (P : Program) (ops : Array Oper) (i : Nat) (s : Fs) : Option (ByteArray × ByteArray) :=
  match opQ ops i s with
  | some o => match o.op with
    | .binOp .add t x y u => match evS s x, evS s y with
      | .string a, .string b => some (a, b)
      | _, _ => none
    | _ => none
  | none => none
theorem runs_strAdd {a b : ByteArray} (h : a.size + b.size ≤ 9223372036854775807) (hq : strAddQ P ops i s = some (a, b)) : RunsTo P ops i s w (.string (a ++ b)) w := by
  unfold strAddQ at hq
  split at hq
  · rename_i o ho
    split at hq
    · rename_i t x' y' yt hop
      refine ⟨o, ho, ?_⟩
      split at hq
      · rename_i a1 b1 hx hy
        cases hq
        have hg : (eqGuard .add t x' y' (.string a) (.string b)).run P w = .ok () w := by
          unfold eqGuard
          rfl
        simp only [execOp, hop, hx, hy, Sem.run_bind, hg, Result.andThen_ok, binOp, run_string_add_sum w a b h, Sem.run_pure]
      · cases hq
    · cases hq
  · cases hq
def arrSliceQ (P : Program) (ops : Array Oper) (i : Nat) (s : Fs) : Option (Addr × Nat × Option Int × Option Int × Nat) :=
  match opQ ops i s with
  | some o => match o.op with
    | .slice t x lo hi none => match P.underlying t, evS s x, valInt (lo.map (evS s)), valInt (hi.map (evS s)) with
      | some (.array n e), .pointer (some ad), some l, some h => match P.info? e with
        | some f => some (ad, n, l, h, f.size)
        | none => none
      | _, _, _, _ => none
    | _ => none
  | none => none
theorem runs_arrSlice {ad : Addr} {n size : Nat} {hi : Option Int} (m : Nat) (hhi : hi = some (m : Int) ∨ hi = none ∧ m = n) (h2 : m ≤ n) (hq : arrSliceQ P ops i s = some (ad, n, none, hi, size)) :
    RunsTo P ops i s w (.slice (some ad) m n) w := by
  unfold arrSliceQ at hq
  split at hq
  · rename_i o ho
    split at hq
    · rename_i t x lo' hi' hop
      split at hq
      · rename_i n' e ad' l h hu hx hl hh
        split at hq
        · rename_i f hf
          simp only [Option.some.injEq, Prod.mk.injEq] at hq
          obtain ⟨rfl, rfl, rfl, rfl, rfl⟩ := hq
          refine ⟨_, ho, ?_⟩
          have hun := run_underlying (P := P) hu w
          have hso : (sizeOf e).run P w = .ok f.size w := by simp [sizeOf, typeInfo, hf]
          have hhi2 : (hi'.map (evS s) = none ∧ m = n') ∨ ∃ q, hi'.map (evS s) = some (.int q (m : Int)) := by
            rcases hhi with rfl | ⟨rfl, hk⟩
            · exact .inr (valInt_some hh)
            · exact .inl ⟨valInt_none hh, hk⟩
          have hb := bounds_of (P := P) (w := w) (isS := false) (k := 0) (lo := lo'.map (evS s)) (len := n') (.inl ⟨valInt_none hl, rfl⟩) hhi2 (Nat.zero_le _) h2
          have ea : (if n' = 0 then ad' else ad'.add (0 * f.size)) = ad' := by
            split
            · rfl
            · unfold Addr.add; simp
          have hxx : (Instr.sliceAt t (evS s x) (lo'.map (evS s)) (hi'.map (evS s)) none).run P w = .ok (.slice (some ad') m n') w := by
            unfold Instr.sliceAt
            simp only [Sem.run_bind, hun, Result.andThen_ok, hx, Instr.sureAddr, hb, hso, Sem.run_pure, ea, Nat.sub_zero]
          simp only [execOp, hop, Option.map_none, Sem.run_bind, hxx, Result.andThen_ok, Sem.run_pure]
        · cases hq
      · cases hq
    · cases hq
  · cases hq
end
end Go.Proofs.YtmmclabkkigiaaaDoor

namespace Go.Proofs.YtmmclabkkigiaaaDoor
open Go Go.RowKit
set_option linter.unusedVariables false
section
variable {B : Nat} {w : World} {l : List Nat}
theorem row_at {α : Type} {K : Kind α} {a : Option Addr} {c : Nat} {xs : List α} (h : (K.row a c xs).P B w l) : CellsAt a (K.cells xs) w := rowA_cells h
theorem bytes_at {n : Nat} {C : Array Value} {e : TypeId} {fz : Nat × Nat} {tx : ByteArray} (hC : ∀ j, j < tx.size → C[j]? = some (.int .u8 ((strNums tx).getD j 0))) (h : (blk n (.cells C e fz)).P B w l) : CellsAt (some ⟨n, 0, none⟩) (kU8.cells (strNums tx)) w := cells_bytes h.2.1 hC
end
theorem part_nil {a : Option Addr} {c k size : Nat} (h : a = none → c = 0) (e : partA a c k size = none) : c - k = 0 := by
  unfold partA at e
  split at e
  · omega
  · cases a with
    | none => have := h rfl; omega
    | some a => cases e
section
variable {M : Bool} {P : Program} {ops : Array Oper} {i : Nat} {s : Fs} {w : World} {K : Fs → World → Prop}
theorem ops_strBytesN {B : Nat} {w0 : World} {l0 : List Nat} {R : List Asn} {b : ByteArray} {e : TypeId} (hs : St B w0 l0 w R) (hq : strBytesQ P ops i s = some (b, e))
    (hk : ∀ (n c : Nat) (C : Array Value) (w' : World), (strNums b).length ≤ c → (∀ j, j < b.size → C[j]? = some (.int .u8 ((strNums b).getD j 0))) → St B w0 l0 w' (blk n (.cells C e (C.size, C.size + 1)) :: R) →
      OpsAt M P ops (i + 1) (putS s (dstOf ops i) (.slice (some ⟨n, 0, none⟩) (strNums b).length c)) w' K) : OpsAt M P ops i s w K :=
  ops_strBytes hs hq fun n c C w' h1 h2 h3 => by
    have h := hk n c C w'
    rw [strNums_len] at h
    exact h h1 h2 h3
end
end Go.Proofs.YtmmclabkkigiaaaDoor

set_option linter.unusedVariables false
set_option maxRecDepth 20000
set_option maxHeartbeats 4000000
namespace Go.Proofs.YtmmclabkkigiaaaDoor
open Go Go.RowKit
set_option linter.unusedSimpArgs false
set_option linter.unusedVariables false

def dready1_M (img : List Int) (l : List (Int × Int)) (gw : Int) (gi : Int) (gb : Int) (n_ : Int) (k_ : Int) : Option (Int) :=
 (bat_M img l gw gi gb n_ k_).bind fun r3 =>
some r3.2

theorem dready1_walk {img : List Int} {l : List (Int × Int)} {gw : Int} {gi : Int} {gb : Int} {n_ : Int} {k_ : Int} {mb vb mc : Nat} {lo_ hi_ : Int} {r : Int} (B : Nat) (w : World) (hm : dready1_M img l gw gi gb n_ k_ = some r) : Spec Tryd.prog 89 #[(.int .i64 k_), (.int .i64 lo_), (.int .i64 hi_), (.pointer (some ⟨mc, 0, none⟩))] B w [blk mc (.cells [(.pointer (some ⟨mb, 0, none⟩))].toArray 24 (0, 0)), blk mb (.cells [(.pointer (some ⟨vb, 0, none⟩)), (.int .i64 gw), (.int .i64 gi), (.int .i64 gb), (.int .i64 n_)].toArray 85 (0, 0)), viewA (ptr vb) img l] (fun v H' => v = .int .i64 r ∧ H' = [blk mc (.cells [(.pointer (some ⟨mb, 0, none⟩))].toArray 24 (0, 0)), blk mb (.cells [(.pointer (some ⟨vb, 0, none⟩)), (.int .i64 gw), (.int .i64 gi), (.int .i64 gb), (.int .i64 n_)].toArray 85 (0, 0)), viewA (ptr vb) img l]) := by
 refine spec_W Tryd.func89 rfl fun l0 hs => ?_
 unfold dready1_M at hm
 refine W.sr fun K1 hK1 => ?_
 refine zE 1 (hK1 _ _ ?_)
 refine W.sr fun K2 hK2 => ?_
 refine zL ⟨mc, 0, none⟩ (.pointer (some ⟨mb, 0, none⟩)) (hs.cellAt 0 rfl rfl) ?_
 refine zR 1 ?_
 obtain ⟨r3, h4, hm⟩ := bind_some hm
 refine zC00 hs (bat_walk (k_ := k_) (img := img) (l := l) (gw := gw) (gi := gi) (gb := gb) (n_ := n_) (hmb := (hs.heapAt 1 rfl)) (hv := (hs.entAt 2 rfl viewA_at)) (hm := h4) B _) fun w5 hs7 => ?_
 refine zE 5 (hK2 _ _ ?_)
 refine W.sr fun K8 hK8 => ?_
 refine zE 2 (hK8 _ _ ?_)
 refine W.ret ?_
 obtain rfl := some_inj hm
 refine ret_of (.int .i64 r3.2) (by kernel_rfl) ⟨_, ⟨rfl, rfl⟩, hs7⟩

end Go.Proofs.YtmmclabkkigiaaaDoor

set_option linter.unusedVariables false
set_option maxRecDepth 20000
set_option maxHeartbeats 4000000
namespace Go.Proofs.YtmmclabkkigiaaaDoor
open Go Go.RowKit
set_option linter.unusedSimpArgs false
set_option linter.unusedVariables false

def dreadyP_B0 (img : List Int) (l : List (Int × Int)) (gw : Int) (gi : Int) (gb : Int) (n_ : Int) (to_ : Int) (k7 : Int → Option (Int)) (p6 : Int) : Option (Int) :=
 need (-9223372036854775808 ≤ (p6 * 64) ∧ (p6 * 64) ≤ 9223372036854775807) <|
if (p6 * 64) < to_ then (need (-9223372036854775808 ≤ (p6 * 64) ∧ (p6 * 64) ≤ 9223372036854775807) <|
need (-9223372036854775808 ≤ (p6 + 1) ∧ (p6 + 1) ≤ 9223372036854775807) <|
need (-9223372036854775808 ≤ ((p6 + 1) * 64) ∧ ((p6 + 1) * 64) ≤ 9223372036854775807) <|
(dready1_M img l gw gi gb n_ p6).bind fun r22 =>
if r22 = 0 then (need (-9223372036854775808 ≤ (p6 + 1) ∧ (p6 + 1) ≤ 9223372036854775807) <|
k7 (p6 + 1)) else (some r22)) else (some 0)

def dreadyP_M (img : List Int) (l : List (Int × Int)) (gw : Int) (gi : Int) (gb : Int) (n_ : Int) (f_ : Int) (to_ : Int) : Option (Int) :=
 need (0 ≤ f_) <|
need (-9223372036854775808 ≤ (f_ / 64) ∧ (f_ / 64) ≤ 9223372036854775807) <|
iter (fun k_ s_ => dreadyP_B0 img l gw gi gb n_ to_ k_ s_) FUEL (f_ / 64)

theorem dreadyP_walk {img : List Int} {l : List (Int × Int)} {gw : Int} {gi : Int} {gb : Int} {n_ : Int} {f_ : Int} {to_ : Int} {mb vb mc : Nat} {r : Int} (B : Nat) (w : World) (hm : dreadyP_M img l gw gi gb n_ f_ to_ = some r) : Spec Tryd.prog 65 #[(.int .i64 f_), (.int .i64 to_), (.func (.func 89) #[] #[(.pointer (some ⟨mc, 0, none⟩))])] B w [blk mc (.cells [(.pointer (some ⟨mb, 0, none⟩))].toArray 24 (0, 0)), blk mb (.cells [(.pointer (some ⟨vb, 0, none⟩)), (.int .i64 gw), (.int .i64 gi), (.int .i64 gb), (.int .i64 n_)].toArray 85 (0, 0)), viewA (ptr vb) img l] (fun v H' => v = .int .i64 r ∧ H' = [blk mc (.cells [(.pointer (some ⟨mb, 0, none⟩))].toArray 24 (0, 0)), blk mb (.cells [(.pointer (some ⟨vb, 0, none⟩)), (.int .i64 gw), (.int .i64 gi), (.int .i64 gb), (.int .i64 n_)].toArray 85 (0, 0)), viewA (ptr vb) img l]) := by
 refine spec_W Tryd.func65 rfl fun l0 hs => ?_
 unfold dreadyP_M at hm
 refine W.sr fun K1 hK1 => ?_
 refine zE 1 (hK1 _ _ ?_)
 refine W.seq fun K2 hK2 => ?_
 refine W.sr fun K3 hK3 => ?_
 refine zR 1 ?_
 obtain ⟨h4, hm⟩ := need_some hm
 obtain ⟨h5, hm⟩ := need_some hm
 refine ops_R (v := .int .i64 (f_ / 64)) (runs_quo (k := .i64) (a := f_) (b := 64) (by kernel_rfl) (by decide) ((congrArg IntKind.i64.wrap (Int.tdiv_eq_ediv_of_nonneg h4)).trans (wrap_i64 h5.1 h5.2))) ?_
 refine zE 1 (hK3 _ _ ?_)
 refine W.block ?_
 have hs11 := St.f1 hs
 have hs12 := St.f2 hs11
 refine W.loop_iter (G := Int) (σ := Int) (fun | p6 => p6) (fun | p6, s_, w_ => (∃ us, s_ = slots 32 [(0, (.int .i64 f_)), (1, (.int .i64 to_)), (2, (.func (.func 89) #[] #[(.pointer (some ⟨mc, 0, none⟩))])), (7, (.int .i64 p6))] us) ∧ St B w l0 w_ [viewA (ptr vb) img l, blk mb (.cells [(.pointer (some ⟨vb, 0, none⟩)), (.int .i64 gw), (.int .i64 gi), (.int .i64 gb), (.int .i64 n_)].toArray 85 (0, 0)), blk mc (.cells [(.pointer (some ⟨mb, 0, none⟩))].toArray 24 (0, 0))]) (f_ / 64) ⟨slots_intro _ (by kernel_rfl), hs12⟩ hm ?_
 rintro k7 ih8 p6 _ w9 ⟨⟨us, rfl⟩, hs10⟩ hm
 replace hm : dreadyP_B0 img l gw gi gb n_ to_ k7 p6 = some r := hm
 unfold dreadyP_B0 at hm
 refine W.seq fun K13 hK13 => ?_
 refine W.sr fun K14 hK14 => ?_
 refine zR 1 ?_
 obtain ⟨h15, hm⟩ := need_some hm
 refine zI _ (wrap_i64 h15.1 h15.2) ?_
 refine zE 2 (hK14 _ _ ?_)
 refine W.cond (decide ((p6 * 64) < to_)) (by kernel_rfl) (fun h16 => ?_) (fun h16 => ?_)
 ·
  obtain ⟨h16p, hm⟩ := iY hm h16
  refine W.skip ?_
  refine hK13 _ _ ?_
  refine W.seq fun K17 hK17 => ?_
  refine W.block ?_
  refine W.sr fun K18 hK18 => ?_
  refine zR 4 ?_
  obtain ⟨h19, hm⟩ := need_some hm
  refine zI _ (wrap_i64 h19.1 h19.2) ?_
  refine zR 3 ?_
  obtain ⟨h20, hm⟩ := need_some hm
  refine zI _ (wrap_i64 h20.1 h20.2) ?_
  obtain ⟨h21, hm⟩ := need_some hm
  refine zI _ (wrap_i64 h21.1 h21.2) ?_
  refine zR 1 ?_
  obtain ⟨r22, h23, hm⟩ := bind_some hm
  have hs24 := St.f1 hs10
  have hs25 := St.f2 hs24
  refine ops_call3 hs25 (by kernel_rfl) (dready1_walk (mb := mb) (vb := vb) (mc := mc) (lo_ := (mx f_ (p6 * 64))) (hi_ := (mn to_ ((p6 + 1) * 64))) (img := img) (l := l) (gw := gw) (gi := gi) (gb := gb) (n_ := n_) (k_ := p6) (hm := h23) B _) ?_
  rintro _ _ w26 ⟨rfl, rfl⟩ hs27
  have hs28 := St.ap3 hs27
  refine zE 1 (hK18 _ _ ?_)
  refine W.sr fun K29 hK29 => ?_
  refine zE 2 (hK29 _ _ ?_)
  refine W.cond (!decide (r22 = 0)) (by kernel_rfl) (fun h30 => ?_) (fun h30 => ?_)
  rotate_left
  ·
   have h30p : r22 = 0 := of_decide_eq_true (bnot_false h30)
   replace hm := ite_yes hm h30p
   refine W.skip ?_
   refine normal_block ?_
   refine hK17 _ _ ?_
   refine W.region ?_
   refine zR 1 ?_
   obtain ⟨h31, hm⟩ := need_some hm
   refine zI _ (wrap_i64 h31.1 h31.2) ?_
   refine zE 1 ?_
   have hs32 := St.f1 hs28
   have hs33 := St.f2 hs32
   refine loopAt_next ?_
   exact ih8 (p6 + 1) _ _ ⟨slots_intro _ (by kernel_rfl), hs33⟩ hm
  ·
   have h30p : ¬ (r22 = 0) := of_decide_eq_false (bnot_true h30)
   replace hm := ite_no hm h30p
   refine W.sr fun K34 hK34 => ?_
   refine zE 2 (hK34 _ _ ?_)
   refine W.ret (ret_block (ret_seq (ret_seq (ret_block (ret_seq ?_)))))
   obtain rfl := some_inj hm
   refine ret_of (.int .i64 r22) (by kernel_rfl) ⟨_, ⟨rfl, rfl⟩, hs28⟩
 ·
  obtain ⟨h16p, hm⟩ := iN hm h16
  refine W.exit (exit_seq (exit_seq (exit_here ?_)))
  refine hK2 _ _ ?_
  refine W.sr fun K35 hK35 => ?_
  refine zE 1 (hK35 _ _ ?_)
  refine W.ret ?_
  obtain rfl := some_inj hm
  have hs36 := St.f1 hs10
  have hs37 := St.f2 hs36
  refine ret_of (.int .i64 0) (by kernel_rfl) ⟨_, ⟨rfl, rfl⟩, hs37⟩

end Go.Proofs.YtmmclabkkigiaaaDoor

set_option linter.unusedVariables false
set_option maxRecDepth 20000
set_option maxHeartbeats 4000000
namespace Go.Proofs.YtmmclabkkigiaaaDoor
open Go Go.RowKit
set_option linter.unusedSimpArgs false
set_option linter.unusedVariables false

def dneed1_J1 (ch : Int) (r3 : Int × Int) (r9 : Int) (p14 : Int) : Option (Int × Int × Int) :=
 if r9 > 1 then (some (r3.2, p14, 1)) else (some (r3.2, p14, ch))

def dneed1_M (img : List Int) (l : List (Int × Int)) (gw : Int) (gi : Int) (gb : Int) (n_ : Int) (k_ : Int) (al : Int) (ch : Int) : Option (Int × Int × Int) :=
 (bat_M img l gw gi gb n_ k_).bind fun r3 =>
(bneed_M img l gw gi gb n_ k_).bind fun r9 =>
if r9 > 0 then (need (-9223372036854775808 ≤ (al + 1) ∧ (al + 1) ≤ 9223372036854775807) <|
dneed1_J1 ch r3 r9 (al + 1)) else (dneed1_J1 ch r3 r9 al)

theorem dneed1_walk {img : List Int} {l : List (Int × Int)} {gw : Int} {gi : Int} {gb : Int} {n_ : Int} {k_ : Int} {al : Int} {ch : Int} {mb vb mc ac cc : Nat} {lo_ hi_ : Int} {r : Int × Int × Int} (B : Nat) (w : World) (hm : dneed1_M img l gw gi gb n_ k_ al ch = some r) : Spec Tryd.prog 72 #[(.int .i64 k_), (.int .i64 lo_), (.int .i64 hi_), (.pointer (some ⟨mc, 0, none⟩)), (.pointer (some ⟨ac, 0, none⟩)), (.pointer (some ⟨cc, 0, none⟩))] B w [blk mc (.cells [(.pointer (some ⟨mb, 0, none⟩))].toArray 24 (0, 0)), blk mb (.cells [(.pointer (some ⟨vb, 0, none⟩)), (.int .i64 gw), (.int .i64 gi), (.int .i64 gb), (.int .i64 n_)].toArray 85 (0, 0)), viewA (ptr vb) img l, blk ac (.cells [(.int .i64 al)].toArray 3 (0, 0)), blk cc (.cells [(.int .i64 ch)].toArray 3 (0, 0))] (fun v H' => v = .int .i64 r.1 ∧ H' = [blk mc (.cells [(.pointer (some ⟨mb, 0, none⟩))].toArray 24 (0, 0)), blk mb (.cells [(.pointer (some ⟨vb, 0, none⟩)), (.int .i64 gw), (.int .i64 gi), (.int .i64 gb), (.int .i64 n_)].toArray 85 (0, 0)), viewA (ptr vb) img l, blk ac (.cells [(.int .i64 r.2.1)].toArray 3 (0, 0)), blk cc (.cells [(.int .i64 r.2.2)].toArray 3 (0, 0))]) := by
 refine spec_W Tryd.func72 rfl fun l0 hs => ?_
 unfold dneed1_M at hm
 refine W.sr fun K1 hK1 => ?_
 refine zE 1 (hK1 _ _ ?_)
 refine W.sr fun K2 hK2 => ?_
 refine zL ⟨mc, 0, none⟩ (.pointer (some ⟨mb, 0, none⟩)) (hs.cellAt 0 rfl rfl) ?_
 refine zR 1 ?_
 obtain ⟨r3, h4, hm⟩ := bind_some hm
 refine zC00 hs (bat_walk (k_ := k_) (img := img) (l := l) (gw := gw) (gi := gi) (gb := gb) (n_ := n_) (hmb := (hs.heapAt 1 rfl)) (hv := (hs.entAt 2 rfl viewA_at)) (hm := h4) B _) fun w5 hs7 => ?_
 refine zE 5 (hK2 _ _ ?_)
 refine W.sr fun K8 hK8 => ?_
 refine zL ⟨mc, 0, none⟩ (.pointer (some ⟨mb, 0, none⟩)) (hs7.cellAt 0 rfl rfl) ?_
 refine zR 1 ?_
 obtain ⟨r9, h10, hm⟩ := bind_some hm
 refine zC00 hs7 (bneed_walk (k_ := k_) (img := img) (l := l) (gw := gw) (gi := gi) (gb := gb) (n_ := n_) (hmb := (hs7.heapAt 1 rfl)) (hv := (hs7.entAt 2 rfl viewA_at)) (hm := h10) B _) fun w11 hs13 => ?_
 refine zE 1 (hK8 _ _ ?_)
 refine W.seq_join (fun s_ w_ => ∃ (p14 : Int), (∃ us, s_ = slots 29 [(5, (.pointer (some ⟨cc, 0, none⟩))), (11, (.int .i64 r3.2)), (12, (.int .i64 r9))] us) ∧ St B w l0 w_ [blk cc (.cells [(.int .i64 ch)].toArray 3 (0, 0)), viewA (ptr vb) img l, blk mb (.cells [(.pointer (some ⟨vb, 0, none⟩)), (.int .i64 gw), (.int .i64 gi), (.int .i64 gb), (.int .i64 n_)].toArray 85 (0, 0)), blk mc (.cells [(.pointer (some ⟨mb, 0, none⟩))].toArray 24 (0, 0)), blk ac (.cells [(.int .i64 p14)].toArray 3 (0, 0))] ∧ dneed1_J1 ch r3 r9 p14 = some r) ?_ ?_
 ·
  rintro _ w15 ⟨p14, ⟨us, rfl⟩, hs16, hm⟩
  unfold dneed1_J1 at hm
  refine W.seq fun K17 hK17 => ?_
  refine W.sr fun K18 hK18 => ?_
  refine zE 2 (hK18 _ _ ?_)
  refine W.cond (decide (r9 > 1)) (by kernel_rfl) (fun h19 => ?_) (fun h19 => ?_)
  ·
   obtain ⟨h19p, hm⟩ := iY hm h19
   refine W.region ?_
   refine ops_store (off := 0) (cs := [(.int .i64 ch)]) (vs := [(.int .i64 1)]) hs16 (by kernel_rfl) (by simp) rfl (fun w20 hs21 => ?_)
   have hs22 : St B w l0 w20 [blk cc (.cells [(.int .i64 1)].toArray 3 (0, 0)), viewA (ptr vb) img l, blk mb (.cells [(.pointer (some ⟨vb, 0, none⟩)), (.int .i64 gw), (.int .i64 gi), (.int .i64 gb), (.int .i64 n_)].toArray 85 (0, 0)), blk mc (.cells [(.pointer (some ⟨mb, 0, none⟩))].toArray 24 (0, 0)), blk ac (.cells [(.int .i64 p14)].toArray 3 (0, 0))] := hs21
   refine zD (hK17 _ _ ?_)
   refine W.sr fun K23 hK23 => ?_
   refine zE 2 (hK23 _ _ ?_)
   refine W.ret ?_
   obtain rfl := some_inj hm
   have hs24 := St.f4 hs22
   have hs25 := St.f2 hs24
   have hs26 := St.f3 hs25
   have hs27 := St.f4 hs26
   refine ret_of (.int .i64 r3.2) (by kernel_rfl) ⟨_, ⟨rfl, rfl⟩, hs27⟩
  ·
   obtain ⟨h19p, hm⟩ := iN hm h19
   refine W.skip ?_
   refine hK17 _ _ ?_
   refine W.sr fun K28 hK28 => ?_
   refine zE 2 (hK28 _ _ ?_)
   refine W.ret ?_
   obtain rfl := some_inj hm
   have hs29 := St.f4 hs16
   have hs30 := St.f2 hs29
   have hs31 := St.f3 hs30
   have hs32 := St.f4 hs31
   refine ret_of (.int .i64 r3.2) (by kernel_rfl) ⟨_, ⟨rfl, rfl⟩, hs32⟩
 ·
  refine W.sr fun K33 hK33 => ?_
  refine zE 2 (hK33 _ _ ?_)
  refine W.cond (decide (r9 > 0)) (by kernel_rfl) (fun h34 => ?_) (fun h34 => ?_)
  ·
   obtain ⟨h34p, hm⟩ := iY hm h34
   refine W.region ?_
   refine zL ⟨ac, 0, none⟩ (.int .i64 al) (hs13.cellAt 3 rfl rfl) ?_
   obtain ⟨h35, hm⟩ := need_some hm
   refine zI _ (wrap_i64 h35.1 h35.2) ?_
   have hs38 := St.f3 hs13
   refine ops_store (off := 0) (cs := [(.int .i64 al)]) (vs := [(.int .i64 (al + 1))]) hs38 (by kernel_rfl) (by simp) rfl (fun w36 hs37 => ?_)
   have hs39 : St B w l0 w36 [blk ac (.cells [(.int .i64 (al + 1))].toArray 3 (0, 0)), blk mc (.cells [(.pointer (some ⟨mb, 0, none⟩))].toArray 24 (0, 0)), blk mb (.cells [(.pointer (some ⟨vb, 0, none⟩)), (.int .i64 gw), (.int .i64 gi), (.int .i64 gb), (.int .i64 n_)].toArray 85 (0, 0)), viewA (ptr vb) img l, blk cc (.cells [(.int .i64 ch)].toArray 3 (0, 0))] := hs37
   refine zD ?_
   have hs40 := St.f1 hs39
   have hs41 := St.f2 hs40
   have hs42 := St.f3 hs41
   have hs43 := St.f4 hs42
   exact ⟨(al + 1), slots_intro _ (by kernel_rfl), hs43, hm⟩
  ·
   obtain ⟨h34p, hm⟩ := iN hm h34
   refine W.skip ?_
   have hs44 := St.f3 hs13
   have hs45 := St.f1 hs44
   have hs46 := St.f2 hs45
   have hs47 := St.f3 hs46
   have hs48 := St.f4 hs47
   exact ⟨al, slots_intro _ (by kernel_rfl), hs48, hm⟩

end Go.Proofs.YtmmclabkkigiaaaDoor

set_option linter.unusedVariables false
set_option maxRecDepth 20000
set_option maxHeartbeats 4000000
namespace Go.Proofs.YtmmclabkkigiaaaDoor
open Go Go.RowKit
set_option linter.unusedSimpArgs false
set_option linter.unusedVariables false

def dneedP_B0 (img : List Int) (l : List (Int × Int)) (gw : Int) (gi : Int) (gb : Int) (n_ : Int) (to_ : Int) (k9 : (Int × Int × Int) → Option (Int × Int × Int)) (p6 : Int) (p7 : Int) (p8 : Int) : Option (Int × Int × Int) :=
 need (-9223372036854775808 ≤ (p6 * 64) ∧ (p6 * 64) ≤ 9223372036854775807) <|
if (p6 * 64) < to_ then (need (-9223372036854775808 ≤ (p6 * 64) ∧ (p6 * 64) ≤ 9223372036854775807) <|
need (-9223372036854775808 ≤ (p6 + 1) ∧ (p6 + 1) ≤ 9223372036854775807) <|
need (-9223372036854775808 ≤ ((p6 + 1) * 64) ∧ ((p6 + 1) * 64) ≤ 9223372036854775807) <|
(dneed1_M img l gw gi gb n_ p6 p7 p8).bind fun r27 =>
if r27.1 = 0 then (need (-9223372036854775808 ≤ (p6 + 1) ∧ (p6 + 1) ≤ 9223372036854775807) <|
k9 ((p6 + 1), r27.2.1, r27.2.2)) else (some (r27.1, r27.2.1, r27.2.2))) else (some (0, p7, p8))

def dneedP_M (img : List Int) (l : List (Int × Int)) (gw : Int) (gi : Int) (gb : Int) (n_ : Int) (f_ : Int) (to_ : Int) (al : Int) (ch : Int) : Option (Int × Int × Int) :=
 need (0 ≤ f_) <|
need (-9223372036854775808 ≤ (f_ / 64) ∧ (f_ / 64) ≤ 9223372036854775807) <|
iter (fun k_ s_ => dneedP_B0 img l gw gi gb n_ to_ k_ s_.1 s_.2.1 s_.2.2) FUEL ((f_ / 64), al, ch)

theorem dneedP_walk {img : List Int} {l : List (Int × Int)} {gw : Int} {gi : Int} {gb : Int} {n_ : Int} {f_ : Int} {to_ : Int} {al : Int} {ch : Int} {mb vb mc ac cc : Nat} {r : Int × Int × Int} (B : Nat) (w : World) (hm : dneedP_M img l gw gi gb n_ f_ to_ al ch = some r) : Spec Tryd.prog 65 #[(.int .i64 f_), (.int .i64 to_), (.func (.func 72) #[] #[(.pointer (some ⟨mc, 0, none⟩)), (.pointer (some ⟨ac, 0, none⟩)), (.pointer (some ⟨cc, 0, none⟩))])] B w [blk mc (.cells [(.pointer (some ⟨mb, 0, none⟩))].toArray 24 (0, 0)), blk mb (.cells [(.pointer (some ⟨vb, 0, none⟩)), (.int .i64 gw), (.int .i64 gi), (.int .i64 gb), (.int .i64 n_)].toArray 85 (0, 0)), viewA (ptr vb) img l, blk ac (.cells [(.int .i64 al)].toArray 3 (0, 0)), blk cc (.cells [(.int .i64 ch)].toArray 3 (0, 0))] (fun v H' => v = .int .i64 r.1 ∧ H' = [blk mc (.cells [(.pointer (some ⟨mb, 0, none⟩))].toArray 24 (0, 0)), blk mb (.cells [(.pointer (some ⟨vb, 0, none⟩)), (.int .i64 gw), (.int .i64 gi), (.int .i64 gb), (.int .i64 n_)].toArray 85 (0, 0)), viewA (ptr vb) img l, blk ac (.cells [(.int .i64 r.2.1)].toArray 3 (0, 0)), blk cc (.cells [(.int .i64 r.2.2)].toArray 3 (0, 0))]) := by
 refine spec_W Tryd.func65 rfl fun l0 hs => ?_
 unfold dneedP_M at hm
 refine W.sr fun K1 hK1 => ?_
 refine zE 1 (hK1 _ _ ?_)
 refine W.seq fun K2 hK2 => ?_
 refine W.sr fun K3 hK3 => ?_
 refine zR 1 ?_
 obtain ⟨h4, hm⟩ := need_some hm
 obtain ⟨h5, hm⟩ := need_some hm
 refine ops_R (v := .int .i64 (f_ / 64)) (runs_quo (k := .i64) (a := f_) (b := 64) (by kernel_rfl) (by decide) ((congrArg IntKind.i64.wrap (Int.tdiv_eq_ediv_of_nonneg h4)).trans (wrap_i64 h5.1 h5.2))) ?_
 refine zE 1 (hK3 _ _ ?_)
 refine W.block ?_
 have hs13 := St.f4 hs
 have hs14 := St.f4 hs13
 have hs15 := St.f2 hs14
 have hs16 := St.f3 hs15
 have hs17 := St.f4 hs16
 refine W.loop_iter (G := Int × Int × Int) (σ := Int × Int × Int) (fun | (p6, p7, p8) => (p6, p7, p8)) (fun | (p6, p7, p8), s_, w_ => (∃ us, s_ = slots 32 [(0, (.int .i64 f_)), (1, (.int .i64 to_)), (2, (.func (.func 72) #[] #[(.pointer (some ⟨mc, 0, none⟩)), (.pointer (some ⟨ac, 0, none⟩)), (.pointer (some ⟨cc, 0, none⟩))])), (7, (.int .i64 p6))] us) ∧ St B w l0 w_ [viewA (ptr vb) img l, blk mb (.cells [(.pointer (some ⟨vb, 0, none⟩)), (.int .i64 gw), (.int .i64 gi), (.int .i64 gb), (.int .i64 n_)].toArray 85 (0, 0)), blk mc (.cells [(.pointer (some ⟨mb, 0, none⟩))].toArray 24 (0, 0)), blk ac (.cells [(.int .i64 p7)].toArray 3 (0, 0)), blk cc (.cells [(.int .i64 p8)].toArray 3 (0, 0))]) ((f_ / 64), al, ch) ⟨slots_intro _ (by kernel_rfl), hs17⟩ hm ?_
 rintro k9 ih10 ⟨p6, p7, p8⟩ _ w11 ⟨⟨us, rfl⟩, hs12⟩ hm
 replace hm : dneedP_B0 img l gw gi gb n_ to_ k9 p6 p7 p8 = some r := hm
 unfold dneedP_B0 at hm
 refine W.seq fun K18 hK18 => ?_
 refine W.sr fun K19 hK19 => ?_
 refine zR 1 ?_
 obtain ⟨h20, hm⟩ := need_some hm
 refine zI _ (wrap_i64 h20.1 h20.2) ?_
 refine zE 2 (hK19 _ _ ?_)
 refine W.cond (decide ((p6 * 64) < to_)) (by kernel_rfl) (fun h21 => ?_) (fun h21 => ?_)
 ·
  obtain ⟨h21p, hm⟩ := iY hm h21
  refine W.skip ?_
  refine hK18 _ _ ?_
  refine W.seq fun K22 hK22 => ?_
  refine W.block ?_
  refine W.sr fun K23 hK23 => ?_
  refine zR 4 ?_
  obtain ⟨h24, hm⟩ := need_some hm
  refine zI _ (wrap_i64 h24.1 h24.2) ?_
  refine zR 3 ?_
  obtain ⟨h25, hm⟩ := need_some hm
  refine zI _ (wrap_i64 h25.1 h25.2) ?_
  obtain ⟨h26, hm⟩ := need_some hm
  refine zI _ (wrap_i64 h26.1 h26.2) ?_
  refine zR 1 ?_
  obtain ⟨r27, h28, hm⟩ := bind_some hm
  have hs29 := St.f4 hs12
  have hs30 := St.f4 hs29
  have hs31 := St.f2 hs30
  have hs32 := St.f3 hs31
  have hs33 := St.f4 hs32
  refine ops_call5 hs33 (by kernel_rfl) (dneed1_walk (mb := mb) (vb := vb) (mc := mc) (ac := ac) (cc := cc) (lo_ := (mx f_ (p6 * 64))) (hi_ := (mn to_ ((p6 + 1) * 64))) (img := img) (l := l) (gw := gw) (gi := gi) (gb := gb) (n_ := n_) (k_ := p6) (al := p7) (ch := p8) (hm := h28) B _) ?_
  rintro _ _ w34 ⟨rfl, rfl⟩ hs35
  have hs36 := St.ap5 hs35
  refine zE 1 (hK23 _ _ ?_)
  refine W.sr fun K37 hK37 => ?_
  refine zE 2 (hK37 _ _ ?_)
  refine W.cond (!decide (r27.1 = 0)) (by kernel_rfl) (fun h38 => ?_) (fun h38 => ?_)
  rotate_left
  ·
   have h38p : r27.1 = 0 := of_decide_eq_true (bnot_false h38)
   replace hm := ite_yes hm h38p
   refine W.skip ?_
   refine normal_block ?_
   refine hK22 _ _ ?_
   refine W.region ?_
   refine zR 1 ?_
   obtain ⟨h39, hm⟩ := need_some hm
   refine zI _ (wrap_i64 h39.1 h39.2) ?_
   refine zE 1 ?_
   have hs40 := St.f4 hs36
   have hs41 := St.f4 hs40
   have hs42 := St.f2 hs41
   have hs43 := St.f3 hs42
   have hs44 := St.f4 hs43
   refine loopAt_next ?_
   exact ih10 ((p6 + 1), r27.2.1, r27.2.2) _ _ ⟨slots_intro _ (by kernel_rfl), hs44⟩ hm
  ·
   have h38p : ¬ (r27.1 = 0) := of_decide_eq_false (bnot_true h38)
   replace hm := ite_no hm h38p
   refine W.sr fun K45 hK45 => ?_
   refine zE 2 (hK45 _ _ ?_)
   refine W.ret (ret_block (ret_seq (ret_seq (ret_block (ret_seq ?_)))))
   obtain rfl := some_inj hm
   refine ret_of (.int .i64 r27.1) (by kernel_rfl) ⟨_, ⟨rfl, rfl⟩, hs36⟩
 ·
  obtain ⟨h21p, hm⟩ := iN hm h21
  refine W.exit (exit_seq (exit_seq (exit_here ?_)))
  refine hK2 _ _ ?_
  refine W.sr fun K46 hK46 => ?_
  refine zE 1 (hK46 _ _ ?_)
  refine W.ret ?_
  obtain rfl := some_inj hm
  have hs47 := St.f4 hs12
  have hs48 := St.f4 hs47
  have hs49 := St.f2 hs48
  have hs50 := St.f3 hs49
  have hs51 := St.f4 hs50
  refine ret_of (.int .i64 0) (by kernel_rfl) ⟨_, ⟨rfl, rfl⟩, hs51⟩

end Go.Proofs.YtmmclabkkigiaaaDoor

set_option maxRecDepth 20000
set_option maxHeartbeats 1000000
namespace Go.Proofs.YtmmclabkkigiaaaDoor
open Go Go.RowKit
set_option linter.unusedSimpArgs false
set_option linter.unusedVariables false

theorem dfile_ok {vb : Nat} {img : List Int} {l : List (Int × Int)} {gw gi gb n_ : Int} (B : Nat) (w : World) (hv : ViewAt (ptr vb) img l w) (hP : (igetM img l gw gi gb n_).2 = 0) (hK : ¬ ((igetM img l gw gi gb n_).1.k = 2)) : Spec Tryd.prog 64 #[(.pointer (some ⟨vb, 0, none⟩)), (.agg #[(.int .i64 gw), (.int .i64 gi), (.int .i64 gb)]), (.int .i64 n_)] B w [] (fun v H' => ∃ mb, v = (.tuple #[(.agg #[(.int .u64 ((igetM img l gw gi gb n_).1.k)), (.int .u64 ((igetM img l gw gi gb n_).1.l)), (.int .u64 ((igetM img l gw gi gb n_).1.o)), (.int .u64 ((igetM img l gw gi gb n_).1.s)), (.int .u64 ((igetM img l gw gi gb n_).1.a)), (.int .u64 ((igetM img l gw gi gb n_).1.b)), (.int .u64 ((igetM img l gw gi gb n_).1.c)), (.int .u64 ((igetM img l gw gi gb n_).1.d)), (.int .u64 ((igetM img l gw gi gb n_).1.e)), (.int .u64 ((igetM img l gw gi gb n_).1.m))]), (.pointer (some ⟨mb, 0, none⟩)), (.int .i64 0)]) ∧ H' = [blk mb (.cells [(.pointer (some ⟨vb, 0, none⟩)), (.int .i64 gw), (.int .i64 gi), (.int .i64 gb), (.int .i64 n_)].toArray 85 (0, 0))]) := by
 refine spec_Q Tryd.func64 rfl fun hs => ?_
 refine W.sr fun K1 hK1 => ?_
 refine zN [(.int .i64 gw), (.int .i64 gi), (.int .i64 gb)] 23 hs fun b4 w2 hs3 => ?_
 refine zN [(.int .u64 0), (.int .u64 0), (.int .u64 0), (.int .u64 0), (.int .u64 0), (.int .u64 0), (.int .u64 0), (.int .u64 0), (.int .u64 0), (.int .u64 0)] 78 hs3 fun b7 w5 hs6 => ?_
 refine zE 2 (hK1 _ _ ?_)
 refine W.sr fun K8 hK8 => ?_
 refine zR 1 ?_
 refine ops_R (runs_loadAgg (ad := ⟨b4, 0, none⟩) (cs := [(.int .i64 gw), (.int .i64 gi), (.int .i64 gb)]) (by kernel_rfl) (cells_sub (hs6.heapAt 1 rfl) rfl)) ?_
 refine zR 1 ?_
 refine zC00 hs6 (ig_spec (gw := gw) (gi := gi) (gb := gb) (n_ := n_) (hv := (viewAt_old hs6 hv)) B _) fun w9 hs11 => ?_
 refine zR 3 ?_
 refine zN [(.int .u64 0), (.int .u64 0), (.int .u64 0), (.int .u64 0), (.int .u64 0), (.int .u64 0), (.int .u64 0), (.int .u64 0), (.int .u64 0), (.int .u64 0)] 78 hs11 fun b14 w12 hs13 => ?_
 refine ops_store (off := 0) (cs := [(.int .u64 0), (.int .u64 0), (.int .u64 0), (.int .u64 0), (.int .u64 0), (.int .u64 0), (.int .u64 0), (.int .u64 0), (.int .u64 0), (.int .u64 0)]) (vs := [(.int .u64 ((igetM img l gw gi gb n_).1.k)), (.int .u64 ((igetM img l gw gi gb n_).1.l)), (.int .u64 ((igetM img l gw gi gb n_).1.o)), (.int .u64 ((igetM img l gw gi gb n_).1.s)), (.int .u64 ((igetM img l gw gi gb n_).1.a)), (.int .u64 ((igetM img l gw gi gb n_).1.b)), (.int .u64 ((igetM img l gw gi gb n_).1.c)), (.int .u64 ((igetM img l gw gi gb n_).1.d)), (.int .u64 ((igetM img l gw gi gb n_).1.e)), (.int .u64 ((igetM img l gw gi gb n_).1.m))]) hs13 (by kernel_rfl) (by simp) rfl (fun w15 hs16 => ?_)
 have hs17 : St B w [] w15 [blk b14 (.cells [(.int .u64 ((igetM img l gw gi gb n_).1.k)), (.int .u64 ((igetM img l gw gi gb n_).1.l)), (.int .u64 ((igetM img l gw gi gb n_).1.o)), (.int .u64 ((igetM img l gw gi gb n_).1.s)), (.int .u64 ((igetM img l gw gi gb n_).1.a)), (.int .u64 ((igetM img l gw gi gb n_).1.b)), (.int .u64 ((igetM img l gw gi gb n_).1.c)), (.int .u64 ((igetM img l gw gi gb n_).1.d)), (.int .u64 ((igetM img l gw gi gb n_).1.e)), (.int .u64 ((igetM img l gw gi gb n_).1.m))].toArray 78 (0, 0)), blk b7 (.cells [(.int .u64 0), (.int .u64 0), (.int .u64 0), (.int .u64 0), (.int .u64 0), (.int .u64 0), (.int .u64 0), (.int .u64 0), (.int .u64 0), (.int .u64 0)].toArray 78 (0, 0)), blk b4 (.cells [(.int .i64 gw), (.int .i64 gi), (.int .i64 gb)].toArray 23 (0, 0))] := hs16
 refine zE 1 (hK8 _ _ ?_)
 refine W.seq fun K18 hK18 => ?_
 refine W.sr fun K19 hK19 => ?_
 refine zR 3 ?_
 rcases Bool.eq_false_or_eq_true (decide ((igetM img l gw gi gb n_).2 = 0)) with h20 | h20
 ·
  have h20p := of_decide_eq_true h20
  refine zS 21 h20 ?_
  refine zS 20 h20 ?_
  refine zR 1 ?_
  refine zL ⟨b14, 0, none⟩ (.int .u64 ((igetM img l gw gi gb n_).1.k)) (hs17.cellAt 0 rfl rfl) ?_
  refine zE 2 (hK19 _ _ ?_)
  refine W.cond (decide ((igetM img l gw gi gb n_).1.k = 2)) (by kernel_rfl) (fun h21 => ?_) (fun h21 => ?_)
  ·
   have h21p := of_decide_eq_true h21
   refine W.region ?_
   refine zE 1 (hK18 _ _ ?_)
   refine W.seq fun K22 hK22 => ?_
   refine W.sr fun K23 hK23 => ?_
   refine zE 2 (hK23 _ _ ?_)
   refine W.cond_true true (by kernel_rfl) rfl ?_
   refine W.sr fun K24 hK24 => ?_
   refine zR 2 ?_
   have hs27 := St.f1 hs17
   refine ops_store (off := 0) (cs := [(.int .u64 0), (.int .u64 0), (.int .u64 0), (.int .u64 0), (.int .u64 0), (.int .u64 0), (.int .u64 0), (.int .u64 0), (.int .u64 0), (.int .u64 0)]) (vs := [(.int .u64 0), (.int .u64 0), (.int .u64 0), (.int .u64 0), (.int .u64 0), (.int .u64 0), (.int .u64 0), (.int .u64 0), (.int .u64 0), (.int .u64 0)]) hs27 (by kernel_rfl) (by simp) rfl (fun w25 hs26 => ?_)
   have hs28 : St B w [] w25 [blk b7 (.cells [(.int .u64 0), (.int .u64 0), (.int .u64 0), (.int .u64 0), (.int .u64 0), (.int .u64 0), (.int .u64 0), (.int .u64 0), (.int .u64 0), (.int .u64 0)].toArray 78 (0, 0)), blk b14 (.cells [(.int .u64 ((igetM img l gw gi gb n_).1.k)), (.int .u64 ((igetM img l gw gi gb n_).1.l)), (.int .u64 ((igetM img l gw gi gb n_).1.o)), (.int .u64 ((igetM img l gw gi gb n_).1.s)), (.int .u64 ((igetM img l gw gi gb n_).1.a)), (.int .u64 ((igetM img l gw gi gb n_).1.b)), (.int .u64 ((igetM img l gw gi gb n_).1.c)), (.int .u64 ((igetM img l gw gi gb n_).1.d)), (.int .u64 ((igetM img l gw gi gb n_).1.e)), (.int .u64 ((igetM img l gw gi gb n_).1.m))].toArray 78 (0, 0)), blk b4 (.cells [(.int .i64 gw), (.int .i64 gi), (.int .i64 gb)].toArray 23 (0, 0))] := hs26
   refine zE 2 (hK24 _ _ ?_)
   refine W.ret (ret_seq ?_)
   exfalso; omega
  ·
   have h21p := of_decide_eq_false h21
   refine W.skip ?_
   refine hK18 _ _ ?_
   refine W.seq fun K29 hK29 => ?_
   refine W.sr fun K30 hK30 => ?_
   refine zE 2 (hK30 _ _ ?_)
   refine W.cond (!decide ((igetM img l gw gi gb n_).2 = 0)) (by kernel_rfl) (fun h31 => ?_) (fun h31 => ?_)
   ·
    have h31p : ¬ ((igetM img l gw gi gb n_).2 = 0) := of_decide_eq_false (bnot_true h31)
    refine W.sr fun K32 hK32 => ?_
    refine zR 2 ?_
    have hs35 := St.f1 hs17
    refine ops_store (off := 0) (cs := [(.int .u64 0), (.int .u64 0), (.int .u64 0), (.int .u64 0), (.int .u64 0), (.int .u64 0), (.int .u64 0), (.int .u64 0), (.int .u64 0), (.int .u64 0)]) (vs := [(.int .u64 0), (.int .u64 0), (.int .u64 0), (.int .u64 0), (.int .u64 0), (.int .u64 0), (.int .u64 0), (.int .u64 0), (.int .u64 0), (.int .u64 0)]) hs35 (by kernel_rfl) (by simp) rfl (fun w33 hs34 => ?_)
    have hs36 : St B w [] w33 [blk b7 (.cells [(.int .u64 0), (.int .u64 0), (.int .u64 0), (.int .u64 0), (.int .u64 0), (.int .u64 0), (.int .u64 0), (.int .u64 0), (.int .u64 0), (.int .u64 0)].toArray 78 (0, 0)), blk b14 (.cells [(.int .u64 ((igetM img l gw gi gb n_).1.k)), (.int .u64 ((igetM img l gw gi gb n_).1.l)), (.int .u64 ((igetM img l gw gi gb n_).1.o)), (.int .u64 ((igetM img l gw gi gb n_).1.s)), (.int .u64 ((igetM img l gw gi gb n_).1.a)), (.int .u64 ((igetM img l gw gi gb n_).1.b)), (.int .u64 ((igetM img l gw gi gb n_).1.c)), (.int .u64 ((igetM img l gw gi gb n_).1.d)), (.int .u64 ((igetM img l gw gi gb n_).1.e)), (.int .u64 ((igetM img l gw gi gb n_).1.m))].toArray 78 (0, 0)), blk b4 (.cells [(.int .i64 gw), (.int .i64 gi), (.int .i64 gb)].toArray 23 (0, 0))] := hs34
    refine zE 2 (hK32 _ _ ?_)
    refine W.ret (ret_seq ?_)
    exfalso; omega
   ·
    have h31p : (igetM img l gw gi gb n_).2 = 0 := of_decide_eq_true (bnot_false h31)
    refine W.skip ?_
    refine hK29 _ _ ?_
    refine W.sr fun K37 hK37 => ?_
    refine zR 1 ?_
    refine ops_R (runs_loadAgg (ad := ⟨b4, 0, none⟩) (cs := [(.int .i64 gw), (.int .i64 gi), (.int .i64 gb)]) (by kernel_rfl) (cells_sub (hs17.heapAt 2 rfl) rfl)) ?_
    refine zR 1 ?_
    rcases Bool.eq_false_or_eq_true (decide ((igetM img l gw gi gb n_).2 = 0)) with h38 | h38
    ·
     have h38p := of_decide_eq_true h38
     refine ops_call0 hs17 (by kernel_rfl) (bof_ok (gw := gw) (gi := gi) (gb := gb) (n_ := n_) (hv := (viewAt_old hs17 hv)) (hP := h38p) B _) ?_
     rintro _ _ w40 ⟨b39, rfl, rfl⟩ hs41
     have hs42 := St.ap1 hs41
     refine zE 5 (hK37 _ _ ?_)
     refine W.sr fun K43 hK43 => ?_
     refine ops_R (runs_loadAgg (ad := ⟨b14, 0, none⟩) (cs := [(.int .u64 ((igetM img l gw gi gb n_).1.k)), (.int .u64 ((igetM img l gw gi gb n_).1.l)), (.int .u64 ((igetM img l gw gi gb n_).1.o)), (.int .u64 ((igetM img l gw gi gb n_).1.s)), (.int .u64 ((igetM img l gw gi gb n_).1.a)), (.int .u64 ((igetM img l gw gi gb n_).1.b)), (.int .u64 ((igetM img l gw gi gb n_).1.c)), (.int .u64 ((igetM img l gw gi gb n_).1.d)), (.int .u64 ((igetM img l gw gi gb n_).1.e)), (.int .u64 ((igetM img l gw gi gb n_).1.m))]) (by kernel_rfl) (cells_sub (hs42.heapAt 1 rfl) rfl)) ?_
     refine zR 2 ?_
     have hs46 := St.f2 hs42
     refine ops_store (off := 0) (cs := [(.int .u64 0), (.int .u64 0), (.int .u64 0), (.int .u64 0), (.int .u64 0), (.int .u64 0), (.int .u64 0), (.int .u64 0), (.int .u64 0), (.int .u64 0)]) (vs := [(.int .u64 ((igetM img l gw gi gb n_).1.k)), (.int .u64 ((igetM img l gw gi gb n_).1.l)), (.int .u64 ((igetM img l gw gi gb n_).1.o)), (.int .u64 ((igetM img l gw gi gb n_).1.s)), (.int .u64 ((igetM img l gw gi gb n_).1.a)), (.int .u64 ((igetM img l gw gi gb n_).1.b)), (.int .u64 ((igetM img l gw gi gb n_).1.c)), (.int .u64 ((igetM img l gw gi gb n_).1.d)), (.int .u64 ((igetM img l gw gi gb n_).1.e)), (.int .u64 ((igetM img l gw gi gb n_).1.m))]) hs46 (by kernel_rfl) (by simp) rfl (fun w44 hs45 => ?_)
     have hs47 : St B w [] w44 [blk b7 (.cells [(.int .u64 ((igetM img l gw gi gb n_).1.k)), (.int .u64 ((igetM img l gw gi gb n_).1.l)), (.int .u64 ((igetM img l gw gi gb n_).1.o)), (.int .u64 ((igetM img l gw gi gb n_).1.s)), (.int .u64 ((igetM img l gw gi gb n_).1.a)), (.int .u64 ((igetM img l gw gi gb n_).1.b)), (.int .u64 ((igetM img l gw gi gb n_).1.c)), (.int .u64 ((igetM img l gw gi gb n_).1.d)), (.int .u64 ((igetM img l gw gi gb n_).1.e)), (.int .u64 ((igetM img l gw gi gb n_).1.m))].toArray 78 (0, 0)), blk b39 (.cells [(.pointer (some ⟨vb, 0, none⟩)), (.int .i64 gw), (.int .i64 gi), (.int .i64 gb), (.int .i64 n_)].toArray 85 (0, 0)), blk b14 (.cells [(.int .u64 ((igetM img l gw gi gb n_).1.k)), (.int .u64 ((igetM img l gw gi gb n_).1.l)), (.int .u64 ((igetM img l gw gi gb n_).1.o)), (.int .u64 ((igetM img l gw gi gb n_).1.s)), (.int .u64 ((igetM img l gw gi gb n_).1.a)), (.int .u64 ((igetM img l gw gi gb n_).1.b)), (.int .u64 ((igetM img l gw gi gb n_).1.c)), (.int .u64 ((igetM img l gw gi gb n_).1.d)), (.int .u64 ((igetM img l gw gi gb n_).1.e)), (.int .u64 ((igetM img l gw gi gb n_).1.m))].toArray 78 (0, 0)), blk b4 (.cells [(.int .i64 gw), (.int .i64 gi), (.int .i64 gb)].toArray 23 (0, 0))] := hs45
     refine zE 2 (hK43 _ _ ?_)
     refine W.ret ?_
     have hs48 := St.f1 hs47
     have hs49 := St.tk1 hs48
     refine ret_of (.tuple #[(.agg #[(.int .u64 ((igetM img l gw gi gb n_).1.k)), (.int .u64 ((igetM img l gw gi gb n_).1.l)), (.int .u64 ((igetM img l gw gi gb n_).1.o)), (.int .u64 ((igetM img l gw gi gb n_).1.s)), (.int .u64 ((igetM img l gw gi gb n_).1.a)), (.int .u64 ((igetM img l gw gi gb n_).1.b)), (.int .u64 ((igetM img l gw gi gb n_).1.c)), (.int .u64 ((igetM img l gw gi gb n_).1.d)), (.int .u64 ((igetM img l gw gi gb n_).1.e)), (.int .u64 ((igetM img l gw gi gb n_).1.m))]), (.pointer (some ⟨b39, 0, none⟩)), (.int .i64 0)]) (resS_of (by kernel_rfl) (resD_three rfl (.agg (ad := ⟨b7, 0, none⟩) (cs := [(.int .u64 ((igetM img l gw gi gb n_).1.k)), (.int .u64 ((igetM img l gw gi gb n_).1.l)), (.int .u64 ((igetM img l gw gi gb n_).1.o)), (.int .u64 ((igetM img l gw gi gb n_).1.s)), (.int .u64 ((igetM img l gw gi gb n_).1.a)), (.int .u64 ((igetM img l gw gi gb n_).1.b)), (.int .u64 ((igetM img l gw gi gb n_).1.c)), (.int .u64 ((igetM img l gw gi gb n_).1.d)), (.int .u64 ((igetM img l gw gi gb n_).1.e)), (.int .u64 ((igetM img l gw gi gb n_).1.m))]) (by kernel_rfl) (by kernel_rfl) (cells_sub (hs47.heapAt 0 rfl) rfl)) (.tmp (by kernel_rfl)) (.tmp (by kernel_rfl)))) ⟨_, ⟨b39, rfl, rfl⟩, hs49⟩
    ·
     have h38p := of_decide_eq_false h38
     refine zC00 hs17 (bof_err (gw := gw) (gi := gi) (gb := gb) (n_ := n_) (hv := (viewAt_old hs17 hv)) (hN := h38p) B _) fun w50 hs52 => ?_
     refine zE 5 (hK37 _ _ ?_)
     refine W.sr fun K53 hK53 => ?_
     refine ops_R (runs_loadAgg (ad := ⟨b14, 0, none⟩) (cs := [(.int .u64 ((igetM img l gw gi gb n_).1.k)), (.int .u64 ((igetM img l gw gi gb n_).1.l)), (.int .u64 ((igetM img l gw gi gb n_).1.o)), (.int .u64 ((igetM img l gw gi gb n_).1.s)), (.int .u64 ((igetM img l gw gi gb n_).1.a)), (.int .u64 ((igetM img l gw gi gb n_).1.b)), (.int .u64 ((igetM img l gw gi gb n_).1.c)), (.int .u64 ((igetM img l gw gi gb n_).1.d)), (.int .u64 ((igetM img l gw gi gb n_).1.e)), (.int .u64 ((igetM img l gw gi gb n_).1.m))]) (by kernel_rfl) (cells_sub (hs52.heapAt 0 rfl) rfl)) ?_
     refine zR 2 ?_
     have hs56 := St.f1 hs52
     refine ops_store (off := 0) (cs := [(.int .u64 0), (.int .u64 0), (.int .u64 0), (.int .u64 0), (.int .u64 0), (.int .u64 0), (.int .u64 0), (.int .u64 0), (.int .u64 0), (.int .u64 0)]) (vs := [(.int .u64 ((igetM img l gw gi gb n_).1.k)), (.int .u64 ((igetM img l gw gi gb n_).1.l)), (.int .u64 ((igetM img l gw gi gb n_).1.o)), (.int .u64 ((igetM img l gw gi gb n_).1.s)), (.int .u64 ((igetM img l gw gi gb n_).1.a)), (.int .u64 ((igetM img l gw gi gb n_).1.b)), (.int .u64 ((igetM img l gw gi gb n_).1.c)), (.int .u64 ((igetM img l gw gi gb n_).1.d)), (.int .u64 ((igetM img l gw gi gb n_).1.e)), (.int .u64 ((igetM img l gw gi gb n_).1.m))]) hs56 (by kernel_rfl) (by simp) rfl (fun w54 hs55 => ?_)
     have hs57 : St B w [] w54 [blk b7 (.cells [(.int .u64 ((igetM img l gw gi gb n_).1.k)), (.int .u64 ((igetM img l gw gi gb n_).1.l)), (.int .u64 ((igetM img l gw gi gb n_).1.o)), (.int .u64 ((igetM img l gw gi gb n_).1.s)), (.int .u64 ((igetM img l gw gi gb n_).1.a)), (.int .u64 ((igetM img l gw gi gb n_).1.b)), (.int .u64 ((igetM img l gw gi gb n_).1.c)), (.int .u64 ((igetM img l gw gi gb n_).1.d)), (.int .u64 ((igetM img l gw gi gb n_).1.e)), (.int .u64 ((igetM img l gw gi gb n_).1.m))].toArray 78 (0, 0)), blk b14 (.cells [(.int .u64 ((igetM img l gw gi gb n_).1.k)), (.int .u64 ((igetM img l gw gi gb n_).1.l)), (.int .u64 ((igetM img l gw gi gb n_).1.o)), (.int .u64 ((igetM img l gw gi gb n_).1.s)), (.int .u64 ((igetM img l gw gi gb n_).1.a)), (.int .u64 ((igetM img l gw gi gb n_).1.b)), (.int .u64 ((igetM img l gw gi gb n_).1.c)), (.int .u64 ((igetM img l gw gi gb n_).1.d)), (.int .u64 ((igetM img l gw gi gb n_).1.e)), (.int .u64 ((igetM img l gw gi gb n_).1.m))].toArray 78 (0, 0)), blk b4 (.cells [(.int .i64 gw), (.int .i64 gi), (.int .i64 gb)].toArray 23 (0, 0))] := hs55
     refine zE 2 (hK53 _ _ ?_)
     refine W.ret ?_
     exfalso; omega
 ·
  have h20p := of_decide_eq_false h20
  refine zS 21 h20 ?_
  refine zS 20 h20 ?_
  refine zE 4 (hK19 _ _ ?_)
  refine W.cond_false false (by kernel_rfl) rfl ?_
  refine W.skip ?_
  refine hK18 _ _ ?_
  refine W.seq fun K58 hK58 => ?_
  refine W.sr fun K59 hK59 => ?_
  refine zE 2 (hK59 _ _ ?_)
  refine W.cond (!decide ((igetM img l gw gi gb n_).2 = 0)) (by kernel_rfl) (fun h60 => ?_) (fun h60 => ?_)
  ·
   have h60p : ¬ ((igetM img l gw gi gb n_).2 = 0) := of_decide_eq_false (bnot_true h60)
   refine W.sr fun K61 hK61 => ?_
   refine zR 2 ?_
   have hs64 := St.f1 hs17
   refine ops_store (off := 0) (cs := [(.int .u64 0), (.int .u64 0), (.int .u64 0), (.int .u64 0), (.int .u64 0), (.int .u64 0), (.int .u64 0), (.int .u64 0), (.int .u64 0), (.int .u64 0)]) (vs := [(.int .u64 0), (.int .u64 0), (.int .u64 0), (.int .u64 0), (.int .u64 0), (.int .u64 0), (.int .u64 0), (.int .u64 0), (.int .u64 0), (.int .u64 0)]) hs64 (by kernel_rfl) (by simp) rfl (fun w62 hs63 => ?_)
   have hs65 : St B w [] w62 [blk b7 (.cells [(.int .u64 0), (.int .u64 0), (.int .u64 0), (.int .u64 0), (.int .u64 0), (.int .u64 0), (.int .u64 0), (.int .u64 0), (.int .u64 0), (.int .u64 0)].toArray 78 (0, 0)), blk b14 (.cells [(.int .u64 ((igetM img l gw gi gb n_).1.k)), (.int .u64 ((igetM img l gw gi gb n_).1.l)), (.int .u64 ((igetM img l gw gi gb n_).1.o)), (.int .u64 ((igetM img l gw gi gb n_).1.s)), (.int .u64 ((igetM img l gw gi gb n_).1.a)), (.int .u64 ((igetM img l gw gi gb n_).1.b)), (.int .u64 ((igetM img l gw gi gb n_).1.c)), (.int .u64 ((igetM img l gw gi gb n_).1.d)), (.int .u64 ((igetM img l gw gi gb n_).1.e)), (.int .u64 ((igetM img l gw gi gb n_).1.m))].toArray 78 (0, 0)), blk b4 (.cells [(.int .i64 gw), (.int .i64 gi), (.int .i64 gb)].toArray 23 (0, 0))] := hs63
   refine zE 2 (hK61 _ _ ?_)
   refine W.ret (ret_seq ?_)
   exfalso; omega
  ·
   have h60p : (igetM img l gw gi gb n_).2 = 0 := of_decide_eq_true (bnot_false h60)
   refine W.skip ?_
   refine hK58 _ _ ?_
   refine W.sr fun K66 hK66 => ?_
   refine zR 1 ?_
   refine ops_R (runs_loadAgg (ad := ⟨b4, 0, none⟩) (cs := [(.int .i64 gw), (.int .i64 gi), (.int .i64 gb)]) (by kernel_rfl) (cells_sub (hs17.heapAt 2 rfl) rfl)) ?_
   refine zR 1 ?_
   rcases Bool.eq_false_or_eq_true (decide ((igetM img l gw gi gb n_).2 = 0)) with h67 | h67
   ·
    have h67p := of_decide_eq_true h67
    refine ops_call0 hs17 (by kernel_rfl) (bof_ok (gw := gw) (gi := gi) (gb := gb) (n_ := n_) (hv := (viewAt_old hs17 hv)) (hP := h67p) B _) ?_
    rintro _ _ w69 ⟨b68, rfl, rfl⟩ hs70
    have hs71 := St.ap1 hs70
    refine zE 5 (hK66 _ _ ?_)
    refine W.sr fun K72 hK72 => ?_
    refine ops_R (runs_loadAgg (ad := ⟨b14, 0, none⟩) (cs := [(.int .u64 ((igetM img l gw gi gb n_).1.k)), (.int .u64 ((igetM img l gw gi gb n_).1.l)), (.int .u64 ((igetM img l gw gi gb n_).1.o)), (.int .u64 ((igetM img l gw gi gb n_).1.s)), (.int .u64 ((igetM img l gw gi gb n_).1.a)), (.int .u64 ((igetM img l gw gi gb n_).1.b)), (.int .u64 ((igetM img l gw gi gb n_).1.c)), (.int .u64 ((igetM img l gw gi gb n_).1.d)), (.int .u64 ((igetM img l gw gi gb n_).1.e)), (.int .u64 ((igetM img l gw gi gb n_).1.m))]) (by kernel_rfl) (cells_sub (hs71.heapAt 1 rfl) rfl)) ?_
    refine zR 2 ?_
    have hs75 := St.f2 hs71
    refine ops_store (off := 0) (cs := [(.int .u64 0), (.int .u64 0), (.int .u64 0), (.int .u64 0), (.int .u64 0), (.int .u64 0), (.int .u64 0), (.int .u64 0), (.int .u64 0), (.int .u64 0)]) (vs := [(.int .u64 ((igetM img l gw gi gb n_).1.k)), (.int .u64 ((igetM img l gw gi gb n_).1.l)), (.int .u64 ((igetM img l gw gi gb n_).1.o)), (.int .u64 ((igetM img l gw gi gb n_).1.s)), (.int .u64 ((igetM img l gw gi gb n_).1.a)), (.int .u64 ((igetM img l gw gi gb n_).1.b)), (.int .u64 ((igetM img l gw gi gb n_).1.c)), (.int .u64 ((igetM img l gw gi gb n_).1.d)), (.int .u64 ((igetM img l gw gi gb n_).1.e)), (.int .u64 ((igetM img l gw gi gb n_).1.m))]) hs75 (by kernel_rfl) (by simp) rfl (fun w73 hs74 => ?_)
    have hs76 : St B w [] w73 [blk b7 (.cells [(.int .u64 ((igetM img l gw gi gb n_).1.k)), (.int .u64 ((igetM img l gw gi gb n_).1.l)), (.int .u64 ((igetM img l gw gi gb n_).1.o)), (.int .u64 ((igetM img l gw gi gb n_).1.s)), (.int .u64 ((igetM img l gw gi gb n_).1.a)), (.int .u64 ((igetM img l gw gi gb n_).1.b)), (.int .u64 ((igetM img l gw gi gb n_).1.c)), (.int .u64 ((igetM img l gw gi gb n_).1.d)), (.int .u64 ((igetM img l gw gi gb n_).1.e)), (.int .u64 ((igetM img l gw gi gb n_).1.m))].toArray 78 (0, 0)), blk b68 (.cells [(.pointer (some ⟨vb, 0, none⟩)), (.int .i64 gw), (.int .i64 gi), (.int .i64 gb), (.int .i64 n_)].toArray 85 (0, 0)), blk b14 (.cells [(.int .u64 ((igetM img l gw gi gb n_).1.k)), (.int .u64 ((igetM img l gw gi gb n_).1.l)), (.int .u64 ((igetM img l gw gi gb n_).1.o)), (.int .u64 ((igetM img l gw gi gb n_).1.s)), (.int .u64 ((igetM img l gw gi gb n_).1.a)), (.int .u64 ((igetM img l gw gi gb n_).1.b)), (.int .u64 ((igetM img l gw gi gb n_).1.c)), (.int .u64 ((igetM img l gw gi gb n_).1.d)), (.int .u64 ((igetM img l gw gi gb n_).1.e)), (.int .u64 ((igetM img l gw gi gb n_).1.m))].toArray 78 (0, 0)), blk b4 (.cells [(.int .i64 gw), (.int .i64 gi), (.int .i64 gb)].toArray 23 (0, 0))] := hs74
    refine zE 2 (hK72 _ _ ?_)
    refine W.ret ?_
    have hs77 := St.f1 hs76
    have hs78 := St.tk1 hs77
    refine ret_of (.tuple #[(.agg #[(.int .u64 ((igetM img l gw gi gb n_).1.k)), (.int .u64 ((igetM img l gw gi gb n_).1.l)), (.int .u64 ((igetM img l gw gi gb n_).1.o)), (.int .u64 ((igetM img l gw gi gb n_).1.s)), (.int .u64 ((igetM img l gw gi gb n_).1.a)), (.int .u64 ((igetM img l gw gi gb n_).1.b)), (.int .u64 ((igetM img l gw gi gb n_).1.c)), (.int .u64 ((igetM img l gw gi gb n_).1.d)), (.int .u64 ((igetM img l gw gi gb n_).1.e)), (.int .u64 ((igetM img l gw gi gb n_).1.m))]), (.pointer (some ⟨b68, 0, none⟩)), (.int .i64 0)]) (resS_of (by kernel_rfl) (resD_three rfl (.agg (ad := ⟨b7, 0, none⟩) (cs := [(.int .u64 ((igetM img l gw gi gb n_).1.k)), (.int .u64 ((igetM img l gw gi gb n_).1.l)), (.int .u64 ((igetM img l gw gi gb n_).1.o)), (.int .u64 ((igetM img l gw gi gb n_).1.s)), (.int .u64 ((igetM img l gw gi gb n_).1.a)), (.int .u64 ((igetM img l gw gi gb n_).1.b)), (.int .u64 ((igetM img l gw gi gb n_).1.c)), (.int .u64 ((igetM img l gw gi gb n_).1.d)), (.int .u64 ((igetM img l gw gi gb n_).1.e)), (.int .u64 ((igetM img l gw gi gb n_).1.m))]) (by kernel_rfl) (by kernel_rfl) (cells_sub (hs76.heapAt 0 rfl) rfl)) (.tmp (by kernel_rfl)) (.tmp (by kernel_rfl)))) ⟨_, ⟨b68, rfl, rfl⟩, hs78⟩
   ·
    have h67p := of_decide_eq_false h67
    refine zC00 hs17 (bof_err (gw := gw) (gi := gi) (gb := gb) (n_ := n_) (hv := (viewAt_old hs17 hv)) (hN := h67p) B _) fun w79 hs81 => ?_
    refine zE 5 (hK66 _ _ ?_)
    refine W.sr fun K82 hK82 => ?_
    refine ops_R (runs_loadAgg (ad := ⟨b14, 0, none⟩) (cs := [(.int .u64 ((igetM img l gw gi gb n_).1.k)), (.int .u64 ((igetM img l gw gi gb n_).1.l)), (.int .u64 ((igetM img l gw gi gb n_).1.o)), (.int .u64 ((igetM img l gw gi gb n_).1.s)), (.int .u64 ((igetM img l gw gi gb n_).1.a)), (.int .u64 ((igetM img l gw gi gb n_).1.b)), (.int .u64 ((igetM img l gw gi gb n_).1.c)), (.int .u64 ((igetM img l gw gi gb n_).1.d)), (.int .u64 ((igetM img l gw gi gb n_).1.e)), (.int .u64 ((igetM img l gw gi gb n_).1.m))]) (by kernel_rfl) (cells_sub (hs81.heapAt 0 rfl) rfl)) ?_
    refine zR 2 ?_
    have hs85 := St.f1 hs81
    refine ops_store (off := 0) (cs := [(.int .u64 0), (.int .u64 0), (.int .u64 0), (.int .u64 0), (.int .u64 0), (.int .u64 0), (.int .u64 0), (.int .u64 0), (.int .u64 0), (.int .u64 0)]) (vs := [(.int .u64 ((igetM img l gw gi gb n_).1.k)), (.int .u64 ((igetM img l gw gi gb n_).1.l)), (.int .u64 ((igetM img l gw gi gb n_).1.o)), (.int .u64 ((igetM img l gw gi gb n_).1.s)), (.int .u64 ((igetM img l gw gi gb n_).1.a)), (.int .u64 ((igetM img l gw gi gb n_).1.b)), (.int .u64 ((igetM img l gw gi gb n_).1.c)), (.int .u64 ((igetM img l gw gi gb n_).1.d)), (.int .u64 ((igetM img l gw gi gb n_).1.e)), (.int .u64 ((igetM img l gw gi gb n_).1.m))]) hs85 (by kernel_rfl) (by simp) rfl (fun w83 hs84 => ?_)
    have hs86 : St B w [] w83 [blk b7 (.cells [(.int .u64 ((igetM img l gw gi gb n_).1.k)), (.int .u64 ((igetM img l gw gi gb n_).1.l)), (.int .u64 ((igetM img l gw gi gb n_).1.o)), (.int .u64 ((igetM img l gw gi gb n_).1.s)), (.int .u64 ((igetM img l gw gi gb n_).1.a)), (.int .u64 ((igetM img l gw gi gb n_).1.b)), (.int .u64 ((igetM img l gw gi gb n_).1.c)), (.int .u64 ((igetM img l gw gi gb n_).1.d)), (.int .u64 ((igetM img l gw gi gb n_).1.e)), (.int .u64 ((igetM img l gw gi gb n_).1.m))].toArray 78 (0, 0)), blk b14 (.cells [(.int .u64 ((igetM img l gw gi gb n_).1.k)), (.int .u64 ((igetM img l gw gi gb n_).1.l)), (.int .u64 ((igetM img l gw gi gb n_).1.o)), (.int .u64 ((igetM img l gw gi gb n_).1.s)), (.int .u64 ((igetM img l gw gi gb n_).1.a)), (.int .u64 ((igetM img l gw gi gb n_).1.b)), (.int .u64 ((igetM img l gw gi gb n_).1.c)), (.int .u64 ((igetM img l gw gi gb n_).1.d)), (.int .u64 ((igetM img l gw gi gb n_).1.e)), (.int .u64 ((igetM img l gw gi gb n_).1.m))].toArray 78 (0, 0)), blk b4 (.cells [(.int .i64 gw), (.int .i64 gi), (.int .i64 gb)].toArray 23 (0, 0))] := hs84
    refine zE 2 (hK82 _ _ ?_)
    refine W.ret ?_
    exfalso; omega

theorem dfile_dir {vb : Nat} {img : List Int} {l : List (Int × Int)} {gw gi gb n_ : Int} (B : Nat) (w : World) (hv : ViewAt (ptr vb) img l w) (hP : (igetM img l gw gi gb n_).2 = 0) (hK : (igetM img l gw gi gb n_).1.k = 2) : Spec Tryd.prog 64 #[(.pointer (some ⟨vb, 0, none⟩)), (.agg #[(.int .i64 gw), (.int .i64 gi), (.int .i64 gb)]), (.int .i64 n_)] B w [] (fun v H' => v = (.tuple #[(.agg #[(.int .u64 0), (.int .u64 0), (.int .u64 0), (.int .u64 0), (.int .u64 0), (.int .u64 0), (.int .u64 0), (.int .u64 0), (.int .u64 0), (.int .u64 0)]), (.pointer none), (.int .i64 11)]) ∧ H' = []) := by
 refine spec_Q Tryd.func64 rfl fun hs => ?_
 refine W.sr fun K1 hK1 => ?_
 refine zN [(.int .i64 gw), (.int .i64 gi), (.int .i64 gb)] 23 hs fun b4 w2 hs3 => ?_
 refine zN [(.int .u64 0), (.int .u64 0), (.int .u64 0), (.int .u64 0), (.int .u64 0), (.int .u64 0), (.int .u64 0), (.int .u64 0), (.int .u64 0), (.int .u64 0)] 78 hs3 fun b7 w5 hs6 => ?_
 refine zE 2 (hK1 _ _ ?_)
 refine W.sr fun K8 hK8 => ?_
 refine zR 1 ?_
 refine ops_R (runs_loadAgg (ad := ⟨b4, 0, none⟩) (cs := [(.int .i64 gw), (.int .i64 gi), (.int .i64 gb)]) (by kernel_rfl) (cells_sub (hs6.heapAt 1 rfl) rfl)) ?_
 refine zR 1 ?_
 refine zC00 hs6 (ig_spec (gw := gw) (gi := gi) (gb := gb) (n_ := n_) (hv := (viewAt_old hs6 hv)) B _) fun w9 hs11 => ?_
 refine zR 3 ?_
 refine zN [(.int .u64 0), (.int .u64 0), (.int .u64 0), (.int .u64 0), (.int .u64 0), (.int .u64 0), (.int .u64 0), (.int .u64 0), (.int .u64 0), (.int .u64 0)] 78 hs11 fun b14 w12 hs13 => ?_
 refine ops_store (off := 0) (cs := [(.int .u64 0), (.int .u64 0), (.int .u64 0), (.int .u64 0), (.int .u64 0), (.int .u64 0), (.int .u64 0), (.int .u64 0), (.int .u64 0), (.int .u64 0)]) (vs := [(.int .u64 ((igetM img l gw gi gb n_).1.k)), (.int .u64 ((igetM img l gw gi gb n_).1.l)), (.int .u64 ((igetM img l gw gi gb n_).1.o)), (.int .u64 ((igetM img l gw gi gb n_).1.s)), (.int .u64 ((igetM img l gw gi gb n_).1.a)), (.int .u64 ((igetM img l gw gi gb n_).1.b)), (.int .u64 ((igetM img l gw gi gb n_).1.c)), (.int .u64 ((igetM img l gw gi gb n_).1.d)), (.int .u64 ((igetM img l gw gi gb n_).1.e)), (.int .u64 ((igetM img l gw gi gb n_).1.m))]) hs13 (by kernel_rfl) (by simp) rfl (fun w15 hs16 => ?_)
 have hs17 : St B w [] w15 [blk b14 (.cells [(.int .u64 ((igetM img l gw gi gb n_).1.k)), (.int .u64 ((igetM img l gw gi gb n_).1.l)), (.int .u64 ((igetM img l gw gi gb n_).1.o)), (.int .u64 ((igetM img l gw gi gb n_).1.s)), (.int .u64 ((igetM img l gw gi gb n_).1.a)), (.int .u64 ((igetM img l gw gi gb n_).1.b)), (.int .u64 ((igetM img l gw gi gb n_).1.c)), (.int .u64 ((igetM img l gw gi gb n_).1.d)), (.int .u64 ((igetM img l gw gi gb n_).1.e)), (.int .u64 ((igetM img l gw gi gb n_).1.m))].toArray 78 (0, 0)), blk b7 (.cells [(.int .u64 0), (.int .u64 0), (.int .u64 0), (.int .u64 0), (.int .u64 0), (.int .u64 0), (.int .u64 0), (.int .u64 0), (.int .u64 0), (.int .u64 0)].toArray 78 (0, 0)), blk b4 (.cells [(.int .i64 gw), (.int .i64 gi), (.int .i64 gb)].toArray 23 (0, 0))] := hs16
 refine zE 1 (hK8 _ _ ?_)
 refine W.seq fun K18 hK18 => ?_
 refine W.sr fun K19 hK19 => ?_
 refine zR 3 ?_
 rcases Bool.eq_false_or_eq_true (decide ((igetM img l gw gi gb n_).2 = 0)) with h20 | h20
 ·
  have h20p := of_decide_eq_true h20
  refine zS 21 h20 ?_
  refine zS 20 h20 ?_
  refine zR 1 ?_
  refine zL ⟨b14, 0, none⟩ (.int .u64 ((igetM img l gw gi gb n_).1.k)) (hs17.cellAt 0 rfl rfl) ?_
  refine zE 2 (hK19 _ _ ?_)
  refine W.cond (decide ((igetM img l gw gi gb n_).1.k = 2)) (by kernel_rfl) (fun h21 => ?_) (fun h21 => ?_)
  ·
   have h21p := of_decide_eq_true h21
   refine W.region ?_
   refine zE 1 (hK18 _ _ ?_)
   refine W.seq fun K22 hK22 => ?_
   refine W.sr fun K23 hK23 => ?_
   refine zE 2 (hK23 _ _ ?_)
   refine W.cond_true true (by kernel_rfl) rfl ?_
   refine W.sr fun K24 hK24 => ?_
   refine zR 2 ?_
   have hs27 := St.f1 hs17
   refine ops_store (off := 0) (cs := [(.int .u64 0), (.int .u64 0), (.int .u64 0), (.int .u64 0), (.int .u64 0), (.int .u64 0), (.int .u64 0), (.int .u64 0), (.int .u64 0), (.int .u64 0)]) (vs := [(.int .u64 0), (.int .u64 0), (.int .u64 0), (.int .u64 0), (.int .u64 0), (.int .u64 0), (.int .u64 0), (.int .u64 0), (.int .u64 0), (.int .u64 0)]) hs27 (by kernel_rfl) (by simp) rfl (fun w25 hs26 => ?_)
   have hs28 : St B w [] w25 [blk b7 (.cells [(.int .u64 0), (.int .u64 0), (.int .u64 0), (.int .u64 0), (.int .u64 0), (.int .u64 0), (.int .u64 0), (.int .u64 0), (.int .u64 0), (.int .u64 0)].toArray 78 (0, 0)), blk b14 (.cells [(.int .u64 ((igetM img l gw gi gb n_).1.k)), (.int .u64 ((igetM img l gw gi gb n_).1.l)), (.int .u64 ((igetM img l gw gi gb n_).1.o)), (.int .u64 ((igetM img l gw gi gb n_).1.s)), (.int .u64 ((igetM img l gw gi gb n_).1.a)), (.int .u64 ((igetM img l gw gi gb n_).1.b)), (.int .u64 ((igetM img l gw gi gb n_).1.c)), (.int .u64 ((igetM img l gw gi gb n_).1.d)), (.int .u64 ((igetM img l gw gi gb n_).1.e)), (.int .u64 ((igetM img l gw gi gb n_).1.m))].toArray 78 (0, 0)), blk b4 (.cells [(.int .i64 gw), (.int .i64 gi), (.int .i64 gb)].toArray 23 (0, 0))] := hs26
   refine zE 2 (hK24 _ _ ?_)
   refine W.ret (ret_seq ?_)
   have hs29 := St.tk0 hs28
   refine ret_of (.tuple #[(.agg #[(.int .u64 0), (.int .u64 0), (.int .u64 0), (.int .u64 0), (.int .u64 0), (.int .u64 0), (.int .u64 0), (.int .u64 0), (.int .u64 0), (.int .u64 0)]), (.pointer none), (.int .i64 11)]) (resS_of (by kernel_rfl) (resD_three rfl (.agg (ad := ⟨b7, 0, none⟩) (cs := [(.int .u64 0), (.int .u64 0), (.int .u64 0), (.int .u64 0), (.int .u64 0), (.int .u64 0), (.int .u64 0), (.int .u64 0), (.int .u64 0), (.int .u64 0)]) (by kernel_rfl) (by kernel_rfl) (cells_sub (hs28.heapAt 0 rfl) rfl)) (.tmp (by kernel_rfl)) (.tmp (by kernel_rfl)))) ⟨_, ⟨rfl, rfl⟩, hs29⟩
  ·
   have h21p := of_decide_eq_false h21
   refine W.skip ?_
   refine hK18 _ _ ?_
   refine W.seq fun K30 hK30 => ?_
   refine W.sr fun K31 hK31 => ?_
   refine zE 2 (hK31 _ _ ?_)
   refine W.cond (!decide ((igetM img l gw gi gb n_).2 = 0)) (by kernel_rfl) (fun h32 => ?_) (fun h32 => ?_)
   ·
    have h32p : ¬ ((igetM img l gw gi gb n_).2 = 0) := of_decide_eq_false (bnot_true h32)
    refine W.sr fun K33 hK33 => ?_
    refine zR 2 ?_
    have hs36 := St.f1 hs17
    refine ops_store (off := 0) (cs := [(.int .u64 0), (.int .u64 0), (.int .u64 0), (.int .u64 0), (.int .u64 0), (.int .u64 0), (.int .u64 0), (.int .u64 0), (.int .u64 0), (.int .u64 0)]) (vs := [(.int .u64 0), (.int .u64 0), (.int .u64 0), (.int .u64 0), (.int .u64 0), (.int .u64 0), (.int .u64 0), (.int .u64 0), (.int .u64 0), (.int .u64 0)]) hs36 (by kernel_rfl) (by simp) rfl (fun w34 hs35 => ?_)
    have hs37 : St B w [] w34 [blk b7 (.cells [(.int .u64 0), (.int .u64 0), (.int .u64 0), (.int .u64 0), (.int .u64 0), (.int .u64 0), (.int .u64 0), (.int .u64 0), (.int .u64 0), (.int .u64 0)].toArray 78 (0, 0)), blk b14 (.cells [(.int .u64 ((igetM img l gw gi gb n_).1.k)), (.int .u64 ((igetM img l gw gi gb n_).1.l)), (.int .u64 ((igetM img l gw gi gb n_).1.o)), (.int .u64 ((igetM img l gw gi gb n_).1.s)), (.int .u64 ((igetM img l gw gi gb n_).1.a)), (.int .u64 ((igetM img l gw gi gb n_).1.b)), (.int .u64 ((igetM img l gw gi gb n_).1.c)), (.int .u64 ((igetM img l gw gi gb n_).1.d)), (.int .u64 ((igetM img l gw gi gb n_).1.e)), (.int .u64 ((igetM img l gw gi gb n_).1.m))].toArray 78 (0, 0)), blk b4 (.cells [(.int .i64 gw), (.int .i64 gi), (.int .i64 gb)].toArray 23 (0, 0))] := hs35
    refine zE 2 (hK33 _ _ ?_)
    refine W.ret (ret_seq ?_)
    exfalso; omega
   ·
    have h32p : (igetM img l gw gi gb n_).2 = 0 := of_decide_eq_true (bnot_false h32)
    refine W.skip ?_
    refine hK30 _ _ ?_
    refine W.sr fun K38 hK38 => ?_
    refine zR 1 ?_
    refine ops_R (runs_loadAgg (ad := ⟨b4, 0, none⟩) (cs := [(.int .i64 gw), (.int .i64 gi), (.int .i64 gb)]) (by kernel_rfl) (cells_sub (hs17.heapAt 2 rfl) rfl)) ?_
    refine zR 1 ?_
    rcases Bool.eq_false_or_eq_true (decide ((igetM img l gw gi gb n_).2 = 0)) with h39 | h39
    ·
     have h39p := of_decide_eq_true h39
     refine ops_call0 hs17 (by kernel_rfl) (bof_ok (gw := gw) (gi := gi) (gb := gb) (n_ := n_) (hv := (viewAt_old hs17 hv)) (hP := h39p) B _) ?_
     rintro _ _ w41 ⟨b40, rfl, rfl⟩ hs42
     have hs43 := St.ap1 hs42
     refine zE 5 (hK38 _ _ ?_)
     refine W.sr fun K44 hK44 => ?_
     refine ops_R (runs_loadAgg (ad := ⟨b14, 0, none⟩) (cs := [(.int .u64 ((igetM img l gw gi gb n_).1.k)), (.int .u64 ((igetM img l gw gi gb n_).1.l)), (.int .u64 ((igetM img l gw gi gb n_).1.o)), (.int .u64 ((igetM img l gw gi gb n_).1.s)), (.int .u64 ((igetM img l gw gi gb n_).1.a)), (.int .u64 ((igetM img l gw gi gb n_).1.b)), (.int .u64 ((igetM img l gw gi gb n_).1.c)), (.int .u64 ((igetM img l gw gi gb n_).1.d)), (.int .u64 ((igetM img l gw gi gb n_).1.e)), (.int .u64 ((igetM img l gw gi gb n_).1.m))]) (by kernel_rfl) (cells_sub (hs43.heapAt 1 rfl) rfl)) ?_
     refine zR 2 ?_
     have hs47 := St.f2 hs43
     refine ops_store (off := 0) (cs := [(.int .u64 0), (.int .u64 0), (.int .u64 0), (.int .u64 0), (.int .u64 0), (.int .u64 0), (.int .u64 0), (.int .u64 0), (.int .u64 0), (.int .u64 0)]) (vs := [(.int .u64 ((igetM img l gw gi gb n_).1.k)), (.int .u64 ((igetM img l gw gi gb n_).1.l)), (.int .u64 ((igetM img l gw gi gb n_).1.o)), (.int .u64 ((igetM img l gw gi gb n_).1.s)), (.int .u64 ((igetM img l gw gi gb n_).1.a)), (.int .u64 ((igetM img l gw gi gb n_).1.b)), (.int .u64 ((igetM img l gw gi gb n_).1.c)), (.int .u64 ((igetM img l gw gi gb n_).1.d)), (.int .u64 ((igetM img l gw gi gb n_).1.e)), (.int .u64 ((igetM img l gw gi gb n_).1.m))]) hs47 (by kernel_rfl) (by simp) rfl (fun w45 hs46 => ?_)
     have hs48 : St B w [] w45 [blk b7 (.cells [(.int .u64 ((igetM img l gw gi gb n_).1.k)), (.int .u64 ((igetM img l gw gi gb n_).1.l)), (.int .u64 ((igetM img l gw gi gb n_).1.o)), (.int .u64 ((igetM img l gw gi gb n_).1.s)), (.int .u64 ((igetM img l gw gi gb n_).1.a)), (.int .u64 ((igetM img l gw gi gb n_).1.b)), (.int .u64 ((igetM img l gw gi gb n_).1.c)), (.int .u64 ((igetM img l gw gi gb n_).1.d)), (.int .u64 ((igetM img l gw gi gb n_).1.e)), (.int .u64 ((igetM img l gw gi gb n_).1.m))].toArray 78 (0, 0)), blk b40 (.cells [(.pointer (some ⟨vb, 0, none⟩)), (.int .i64 gw), (.int .i64 gi), (.int .i64 gb), (.int .i64 n_)].toArray 85 (0, 0)), blk b14 (.cells [(.int .u64 ((igetM img l gw gi gb n_).1.k)), (.int .u64 ((igetM img l gw gi gb n_).1.l)), (.int .u64 ((igetM img l gw gi gb n_).1.o)), (.int .u64 ((igetM img l gw gi gb n_).1.s)), (.int .u64 ((igetM img l gw gi gb n_).1.a)), (.int .u64 ((igetM img l gw gi gb n_).1.b)), (.int .u64 ((igetM img l gw gi gb n_).1.c)), (.int .u64 ((igetM img l gw gi gb n_).1.d)), (.int .u64 ((igetM img l gw gi gb n_).1.e)), (.int .u64 ((igetM img l gw gi gb n_).1.m))].toArray 78 (0, 0)), blk b4 (.cells [(.int .i64 gw), (.int .i64 gi), (.int .i64 gb)].toArray 23 (0, 0))] := hs46
     refine zE 2 (hK44 _ _ ?_)
     refine W.ret ?_
     exfalso; omega
    ·
     have h39p := of_decide_eq_false h39
     refine zC00 hs17 (bof_err (gw := gw) (gi := gi) (gb := gb) (n_ := n_) (hv := (viewAt_old hs17 hv)) (hN := h39p) B _) fun w49 hs51 => ?_
     refine zE 5 (hK38 _ _ ?_)
     refine W.sr fun K52 hK52 => ?_
     refine ops_R (runs_loadAgg (ad := ⟨b14, 0, none⟩) (cs := [(.int .u64 ((igetM img l gw gi gb n_).1.k)), (.int .u64 ((igetM img l gw gi gb n_).1.l)), (.int .u64 ((igetM img l gw gi gb n_).1.o)), (.int .u64 ((igetM img l gw gi gb n_).1.s)), (.int .u64 ((igetM img l gw gi gb n_).1.a)), (.int .u64 ((igetM img l gw gi gb n_).1.b)), (.int .u64 ((igetM img l gw gi gb n_).1.c)), (.int .u64 ((igetM img l gw gi gb n_).1.d)), (.int .u64 ((igetM img l gw gi gb n_).1.e)), (.int .u64 ((igetM img l gw gi gb n_).1.m))]) (by kernel_rfl) (cells_sub (hs51.heapAt 0 rfl) rfl)) ?_
     refine zR 2 ?_
     have hs55 := St.f1 hs51
     refine ops_store (off := 0) (cs := [(.int .u64 0), (.int .u64 0), (.int .u64 0), (.int .u64 0), (.int .u64 0), (.int .u64 0), (.int .u64 0), (.int .u64 0), (.int .u64 0), (.int .u64 0)]) (vs := [(.int .u64 ((igetM img l gw gi gb n_).1.k)), (.int .u64 ((igetM img l gw gi gb n_).1.l)), (.int .u64 ((igetM img l gw gi gb n_).1.o)), (.int .u64 ((igetM img l gw gi gb n_).1.s)), (.int .u64 ((igetM img l gw gi gb n_).1.a)), (.int .u64 ((igetM img l gw gi gb n_).1.b)), (.int .u64 ((igetM img l gw gi gb n_).1.c)), (.int .u64 ((igetM img l gw gi gb n_).1.d)), (.int .u64 ((igetM img l gw gi gb n_).1.e)), (.int .u64 ((igetM img l gw gi gb n_).1.m))]) hs55 (by kernel_rfl) (by simp) rfl (fun w53 hs54 => ?_)
     have hs56 : St B w [] w53 [blk b7 (.cells [(.int .u64 ((igetM img l gw gi gb n_).1.k)), (.int .u64 ((igetM img l gw gi gb n_).1.l)), (.int .u64 ((igetM img l gw gi gb n_).1.o)), (.int .u64 ((igetM img l gw gi gb n_).1.s)), (.int .u64 ((igetM img l gw gi gb n_).1.a)), (.int .u64 ((igetM img l gw gi gb n_).1.b)), (.int .u64 ((igetM img l gw gi gb n_).1.c)), (.int .u64 ((igetM img l gw gi gb n_).1.d)), (.int .u64 ((igetM img l gw gi gb n_).1.e)), (.int .u64 ((igetM img l gw gi gb n_).1.m))].toArray 78 (0, 0)), blk b14 (.cells [(.int .u64 ((igetM img l gw gi gb n_).1.k)), (.int .u64 ((igetM img l gw gi gb n_).1.l)), (.int .u64 ((igetM img l gw gi gb n_).1.o)), (.int .u64 ((igetM img l gw gi gb n_).1.s)), (.int .u64 ((igetM img l gw gi gb n_).1.a)), (.int .u64 ((igetM img l gw gi gb n_).1.b)), (.int .u64 ((igetM img l gw gi gb n_).1.c)), (.int .u64 ((igetM img l gw gi gb n_).1.d)), (.int .u64 ((igetM img l gw gi gb n_).1.e)), (.int .u64 ((igetM img l gw gi gb n_).1.m))].toArray 78 (0, 0)), blk b4 (.cells [(.int .i64 gw), (.int .i64 gi), (.int .i64 gb)].toArray 23 (0, 0))] := hs54
     refine zE 2 (hK52 _ _ ?_)
     refine W.ret ?_
     exfalso; omega
 ·
  have h20p := of_decide_eq_false h20
  refine zS 21 h20 ?_
  refine zS 20 h20 ?_
  refine zE 4 (hK19 _ _ ?_)
  refine W.cond_false false (by kernel_rfl) rfl ?_
  refine W.skip ?_
  refine hK18 _ _ ?_
  refine W.seq fun K57 hK57 => ?_
  refine W.sr fun K58 hK58 => ?_
  refine zE 2 (hK58 _ _ ?_)
  refine W.cond (!decide ((igetM img l gw gi gb n_).2 = 0)) (by kernel_rfl) (fun h59 => ?_) (fun h59 => ?_)
  ·
   have h59p : ¬ ((igetM img l gw gi gb n_).2 = 0) := of_decide_eq_false (bnot_true h59)
   refine W.sr fun K60 hK60 => ?_
   refine zR 2 ?_
   have hs63 := St.f1 hs17
   refine ops_store (off := 0) (cs := [(.int .u64 0), (.int .u64 0), (.int .u64 0), (.int .u64 0), (.int .u64 0), (.int .u64 0), (.int .u64 0), (.int .u64 0), (.int .u64 0), (.int .u64 0)]) (vs := [(.int .u64 0), (.int .u64 0), (.int .u64 0), (.int .u64 0), (.int .u64 0), (.int .u64 0), (.int .u64 0), (.int .u64 0), (.int .u64 0), (.int .u64 0)]) hs63 (by kernel_rfl) (by simp) rfl (fun w61 hs62 => ?_)
   have hs64 : St B w [] w61 [blk b7 (.cells [(.int .u64 0), (.int .u64 0), (.int .u64 0), (.int .u64 0), (.int .u64 0), (.int .u64 0), (.int .u64 0), (.int .u64 0), (.int .u64 0), (.int .u64 0)].toArray 78 (0, 0)), blk b14 (.cells [(.int .u64 ((igetM img l gw gi gb n_).1.k)), (.int .u64 ((igetM img l gw gi gb n_).1.l)), (.int .u64 ((igetM img l gw gi gb n_).1.o)), (.int .u64 ((igetM img l gw gi gb n_).1.s)), (.int .u64 ((igetM img l gw gi gb n_).1.a)), (.int .u64 ((igetM img l gw gi gb n_).1.b)), (.int .u64 ((igetM img l gw gi gb n_).1.c)), (.int .u64 ((igetM img l gw gi gb n_).1.d)), (.int .u64 ((igetM img l gw gi gb n_).1.e)), (.int .u64 ((igetM img l gw gi gb n_).1.m))].toArray 78 (0, 0)), blk b4 (.cells [(.int .i64 gw), (.int .i64 gi), (.int .i64 gb)].toArray 23 (0, 0))] := hs62
   refine zE 2 (hK60 _ _ ?_)
   refine W.ret (ret_seq ?_)
   exfalso; omega
  ·
   have h59p : (igetM img l gw gi gb n_).2 = 0 := of_decide_eq_true (bnot_false h59)
   refine W.skip ?_
   refine hK57 _ _ ?_
   refine W.sr fun K65 hK65 => ?_
   refine zR 1 ?_
   refine ops_R (runs_loadAgg (ad := ⟨b4, 0, none⟩) (cs := [(.int .i64 gw), (.int .i64 gi), (.int .i64 gb)]) (by kernel_rfl) (cells_sub (hs17.heapAt 2 rfl) rfl)) ?_
   refine zR 1 ?_
   rcases Bool.eq_false_or_eq_true (decide ((igetM img l gw gi gb n_).2 = 0)) with h66 | h66
   ·
    have h66p := of_decide_eq_true h66
    refine ops_call0 hs17 (by kernel_rfl) (bof_ok (gw := gw) (gi := gi) (gb := gb) (n_ := n_) (hv := (viewAt_old hs17 hv)) (hP := h66p) B _) ?_
    rintro _ _ w68 ⟨b67, rfl, rfl⟩ hs69
    have hs70 := St.ap1 hs69
    refine zE 5 (hK65 _ _ ?_)
    refine W.sr fun K71 hK71 => ?_
    refine ops_R (runs_loadAgg (ad := ⟨b14, 0, none⟩) (cs := [(.int .u64 ((igetM img l gw gi gb n_).1.k)), (.int .u64 ((igetM img l gw gi gb n_).1.l)), (.int .u64 ((igetM img l gw gi gb n_).1.o)), (.int .u64 ((igetM img l gw gi gb n_).1.s)), (.int .u64 ((igetM img l gw gi gb n_).1.a)), (.int .u64 ((igetM img l gw gi gb n_).1.b)), (.int .u64 ((igetM img l gw gi gb n_).1.c)), (.int .u64 ((igetM img l gw gi gb n_).1.d)), (.int .u64 ((igetM img l gw gi gb n_).1.e)), (.int .u64 ((igetM img l gw gi gb n_).1.m))]) (by kernel_rfl) (cells_sub (hs70.heapAt 1 rfl) rfl)) ?_
    refine zR 2 ?_
    have hs74 := St.f2 hs70
    refine ops_store (off := 0) (cs := [(.int .u64 0), (.int .u64 0), (.int .u64 0), (.int .u64 0), (.int .u64 0), (.int .u64 0), (.int .u64 0), (.int .u64 0), (.int .u64 0), (.int .u64 0)]) (vs := [(.int .u64 ((igetM img l gw gi gb n_).1.k)), (.int .u64 ((igetM img l gw gi gb n_).1.l)), (.int .u64 ((igetM img l gw gi gb n_).1.o)), (.int .u64 ((igetM img l gw gi gb n_).1.s)), (.int .u64 ((igetM img l gw gi gb n_).1.a)), (.int .u64 ((igetM img l gw gi gb n_).1.b)), (.int .u64 ((igetM img l gw gi gb n_).1.c)), (.int .u64 ((igetM img l gw gi gb n_).1.d)), (.int .u64 ((igetM img l gw gi gb n_).1.e)), (.int .u64 ((igetM img l gw gi gb n_).1.m))]) hs74 (by kernel_rfl) (by simp) rfl (fun w72 hs73 => ?_)
    have hs75 : St B w [] w72 [blk b7 (.cells [(.int .u64 ((igetM img l gw gi gb n_).1.k)), (.int .u64 ((igetM img l gw gi gb n_).1.l)), (.int .u64 ((igetM img l gw gi gb n_).1.o)), (.int .u64 ((igetM img l gw gi gb n_).1.s)), (.int .u64 ((igetM img l gw gi gb n_).1.a)), (.int .u64 ((igetM img l gw gi gb n_).1.b)), (.int .u64 ((igetM img l gw gi gb n_).1.c)), (.int .u64 ((igetM img l gw gi gb n_).1.d)), (.int .u64 ((igetM img l gw gi gb n_).1.e)), (.int .u64 ((igetM img l gw gi gb n_).1.m))].toArray 78 (0, 0)), blk b67 (.cells [(.pointer (some ⟨vb, 0, none⟩)), (.int .i64 gw), (.int .i64 gi), (.int .i64 gb), (.int .i64 n_)].toArray 85 (0, 0)), blk b14 (.cells [(.int .u64 ((igetM img l gw gi gb n_).1.k)), (.int .u64 ((igetM img l gw gi gb n_).1.l)), (.int .u64 ((igetM img l gw gi gb n_).1.o)), (.int .u64 ((igetM img l gw gi gb n_).1.s)), (.int .u64 ((igetM img l gw gi gb n_).1.a)), (.int .u64 ((igetM img l gw gi gb n_).1.b)), (.int .u64 ((igetM img l gw gi gb n_).1.c)), (.int .u64 ((igetM img l gw gi gb n_).1.d)), (.int .u64 ((igetM img l gw gi gb n_).1.e)), (.int .u64 ((igetM img l gw gi gb n_).1.m))].toArray 78 (0, 0)), blk b4 (.cells [(.int .i64 gw), (.int .i64 gi), (.int .i64 gb)].toArray 23 (0, 0))] := hs73
    refine zE 2 (hK71 _ _ ?_)
    refine W.ret ?_
    exfalso; omega
   ·
    have h66p := of_decide_eq_false h66
    refine zC00 hs17 (bof_err (gw := gw) (gi := gi) (gb := gb) (n_ := n_) (hv := (viewAt_old hs17 hv)) (hN := h66p) B _) fun w76 hs78 => ?_
    refine zE 5 (hK65 _ _ ?_)
    refine W.sr fun K79 hK79 => ?_
    refine ops_R (runs_loadAgg (ad := ⟨b14, 0, none⟩) (cs := [(.int .u64 ((igetM img l gw gi gb n_).1.k)), (.int .u64 ((igetM img l gw gi gb n_).1.l)), (.int .u64 ((igetM img l gw gi gb n_).1.o)), (.int .u64 ((igetM img l gw gi gb n_).1.s)), (.int .u64 ((igetM img l gw gi gb n_).1.a)), (.int .u64 ((igetM img l gw gi gb n_).1.b)), (.int .u64 ((igetM img l gw gi gb n_).1.c)), (.int .u64 ((igetM img l gw gi gb n_).1.d)), (.int .u64 ((igetM img l gw gi gb n_).1.e)), (.int .u64 ((igetM img l gw gi gb n_).1.m))]) (by kernel_rfl) (cells_sub (hs78.heapAt 0 rfl) rfl)) ?_
    refine zR 2 ?_
    have hs82 := St.f1 hs78
    refine ops_store (off := 0) (cs := [(.int .u64 0), (.int .u64 0), (.int .u64 0), (.int .u64 0), (.int .u64 0), (.int .u64 0), (.int .u64 0), (.int .u64 0), (.int .u64 0), (.int .u64 0)]) (vs := [(.int .u64 ((igetM img l gw gi gb n_).1.k)), (.int .u64 ((igetM img l gw gi gb n_).1.l)), (.int .u64 ((igetM img l gw gi gb n_).1.o)), (.int .u64 ((igetM img l gw gi gb n_).1.s)), (.int .u64 ((igetM img l gw gi gb n_).1.a)), (.int .u64 ((igetM img l gw gi gb n_).1.b)), (.int .u64 ((igetM img l gw gi gb n_).1.c)), (.int .u64 ((igetM img l gw gi gb n_).1.d)), (.int .u64 ((igetM img l gw gi gb n_).1.e)), (.int .u64 ((igetM img l gw gi gb n_).1.m))]) hs82 (by kernel_rfl) (by simp) rfl (fun w80 hs81 => ?_)
    have hs83 : St B w [] w80 [blk b7 (.cells [(.int .u64 ((igetM img l gw gi gb n_).1.k)), (.int .u64 ((igetM img l gw gi gb n_).1.l)), (.int .u64 ((igetM img l gw gi gb n_).1.o)), (.int .u64 ((igetM img l gw gi gb n_).1.s)), (.int .u64 ((igetM img l gw gi gb n_).1.a)), (.int .u64 ((igetM img l gw gi gb n_).1.b)), (.int .u64 ((igetM img l gw gi gb n_).1.c)), (.int .u64 ((igetM img l gw gi gb n_).1.d)), (.int .u64 ((igetM img l gw gi gb n_).1.e)), (.int .u64 ((igetM img l gw gi gb n_).1.m))].toArray 78 (0, 0)), blk b14 (.cells [(.int .u64 ((igetM img l gw gi gb n_).1.k)), (.int .u64 ((igetM img l gw gi gb n_).1.l)), (.int .u64 ((igetM img l gw gi gb n_).1.o)), (.int .u64 ((igetM img l gw gi gb n_).1.s)), (.int .u64 ((igetM img l gw gi gb n_).1.a)), (.int .u64 ((igetM img l gw gi gb n_).1.b)), (.int .u64 ((igetM img l gw gi gb n_).1.c)), (.int .u64 ((igetM img l gw gi gb n_).1.d)), (.int .u64 ((igetM img l gw gi gb n_).1.e)), (.int .u64 ((igetM img l gw gi gb n_).1.m))].toArray 78 (0, 0)), blk b4 (.cells [(.int .i64 gw), (.int .i64 gi), (.int .i64 gb)].toArray 23 (0, 0))] := hs81
    refine zE 2 (hK79 _ _ ?_)
    refine W.ret ?_
    exfalso; omega

theorem dfile_err {vb : Nat} {img : List Int} {l : List (Int × Int)} {gw gi gb n_ : Int} (B : Nat) (w : World) (hv : ViewAt (ptr vb) img l w) (hN : ¬ ((igetM img l gw gi gb n_).2 = 0)) : Spec Tryd.prog 64 #[(.pointer (some ⟨vb, 0, none⟩)), (.agg #[(.int .i64 gw), (.int .i64 gi), (.int .i64 gb)]), (.int .i64 n_)] B w [] (fun v H' => v = (.tuple #[(.agg #[(.int .u64 0), (.int .u64 0), (.int .u64 0), (.int .u64 0), (.int .u64 0), (.int .u64 0), (.int .u64 0), (.int .u64 0), (.int .u64 0), (.int .u64 0)]), (.pointer none), (.int .i64 ((igetM img l gw gi gb n_).2))]) ∧ H' = []) := by
 refine spec_Q Tryd.func64 rfl fun hs => ?_
 refine W.sr fun K1 hK1 => ?_
 refine zN [(.int .i64 gw), (.int .i64 gi), (.int .i64 gb)] 23 hs fun b4 w2 hs3 => ?_
 refine zN [(.int .u64 0), (.int .u64 0), (.int .u64 0), (.int .u64 0), (.int .u64 0), (.int .u64 0), (.int .u64 0), (.int .u64 0), (.int .u64 0), (.int .u64 0)] 78 hs3 fun b7 w5 hs6 => ?_
 refine zE 2 (hK1 _ _ ?_)
 refine W.sr fun K8 hK8 => ?_
 refine zR 1 ?_
 refine ops_R (runs_loadAgg (ad := ⟨b4, 0, none⟩) (cs := [(.int .i64 gw), (.int .i64 gi), (.int .i64 gb)]) (by kernel_rfl) (cells_sub (hs6.heapAt 1 rfl) rfl)) ?_
 refine zR 1 ?_
 refine zC00 hs6 (ig_spec (gw := gw) (gi := gi) (gb := gb) (n_ := n_) (hv := (viewAt_old hs6 hv)) B _) fun w9 hs11 => ?_
 refine zR 3 ?_
 refine zN [(.int .u64 0), (.int .u64 0), (.int .u64 0), (.int .u64 0), (.int .u64 0), (.int .u64 0), (.int .u64 0), (.int .u64 0), (.int .u64 0), (.int .u64 0)] 78 hs11 fun b14 w12 hs13 => ?_
 refine ops_store (off := 0) (cs := [(.int .u64 0), (.int .u64 0), (.int .u64 0), (.int .u64 0), (.int .u64 0), (.int .u64 0), (.int .u64 0), (.int .u64 0), (.int .u64 0), (.int .u64 0)]) (vs := [(.int .u64 ((igetM img l gw gi gb n_).1.k)), (.int .u64 ((igetM img l gw gi gb n_).1.l)), (.int .u64 ((igetM img l gw gi gb n_).1.o)), (.int .u64 ((igetM img l gw gi gb n_).1.s)), (.int .u64 ((igetM img l gw gi gb n_).1.a)), (.int .u64 ((igetM img l gw gi gb n_).1.b)), (.int .u64 ((igetM img l gw gi gb n_).1.c)), (.int .u64 ((igetM img l gw gi gb n_).1.d)), (.int .u64 ((igetM img l gw gi gb n_).1.e)), (.int .u64 ((igetM img l gw gi gb n_).1.m))]) hs13 (by kernel_rfl) (by simp) rfl (fun w15 hs16 => ?_)
 have hs17 : St B w [] w15 [blk b14 (.cells [(.int .u64 ((igetM img l gw gi gb n_).1.k)), (.int .u64 ((igetM img l gw gi gb n_).1.l)), (.int .u64 ((igetM img l gw gi gb n_).1.o)), (.int .u64 ((igetM img l gw gi gb n_).1.s)), (.int .u64 ((igetM img l gw gi gb n_).1.a)), (.int .u64 ((igetM img l gw gi gb n_).1.b)), (.int .u64 ((igetM img l gw gi gb n_).1.c)), (.int .u64 ((igetM img l gw gi gb n_).1.d)), (.int .u64 ((igetM img l gw gi gb n_).1.e)), (.int .u64 ((igetM img l gw gi gb n_).1.m))].toArray 78 (0, 0)), blk b7 (.cells [(.int .u64 0), (.int .u64 0), (.int .u64 0), (.int .u64 0), (.int .u64 0), (.int .u64 0), (.int .u64 0), (.int .u64 0), (.int .u64 0), (.int .u64 0)].toArray 78 (0, 0)), blk b4 (.cells [(.int .i64 gw), (.int .i64 gi), (.int .i64 gb)].toArray 23 (0, 0))] := hs16
 refine zE 1 (hK8 _ _ ?_)
 refine W.seq fun K18 hK18 => ?_
 refine W.sr fun K19 hK19 => ?_
 refine zR 3 ?_
 rcases Bool.eq_false_or_eq_true (decide ((igetM img l gw gi gb n_).2 = 0)) with h20 | h20
 ·
  have h20p := of_decide_eq_true h20
  refine zS 21 h20 ?_
  refine zS 20 h20 ?_
  refine zR 1 ?_
  refine zL ⟨b14, 0, none⟩ (.int .u64 ((igetM img l gw gi gb n_).1.k)) (hs17.cellAt 0 rfl rfl) ?_
  refine zE 2 (hK19 _ _ ?_)
  refine W.cond (decide ((igetM img l gw gi gb n_).1.k = 2)) (by kernel_rfl) (fun h21 => ?_) (fun h21 => ?_)
  ·
   have h21p := of_decide_eq_true h21
   refine W.region ?_
   refine zE 1 (hK18 _ _ ?_)
   refine W.seq fun K22 hK22 => ?_
   refine W.sr fun K23 hK23 => ?_
   refine zE 2 (hK23 _ _ ?_)
   refine W.cond_true true (by kernel_rfl) rfl ?_
   refine W.sr fun K24 hK24 => ?_
   refine zR 2 ?_
   have hs27 := St.f1 hs17
   refine ops_store (off := 0) (cs := [(.int .u64 0), (.int .u64 0), (.int .u64 0), (.int .u64 0), (.int .u64 0), (.int .u64 0), (.int .u64 0), (.int .u64 0), (.int .u64 0), (.int .u64 0)]) (vs := [(.int .u64 0), (.int .u64 0), (.int .u64 0), (.int .u64 0), (.int .u64 0), (.int .u64 0), (.int .u64 0), (.int .u64 0), (.int .u64 0), (.int .u64 0)]) hs27 (by kernel_rfl) (by simp) rfl (fun w25 hs26 => ?_)
   have hs28 : St B w [] w25 [blk b7 (.cells [(.int .u64 0), (.int .u64 0), (.int .u64 0), (.int .u64 0), (.int .u64 0), (.int .u64 0), (.int .u64 0), (.int .u64 0), (.int .u64 0), (.int .u64 0)].toArray 78 (0, 0)), blk b14 (.cells [(.int .u64 ((igetM img l gw gi gb n_).1.k)), (.int .u64 ((igetM img l gw gi gb n_).1.l)), (.int .u64 ((igetM img l gw gi gb n_).1.o)), (.int .u64 ((igetM img l gw gi gb n_).1.s)), (.int .u64 ((igetM img l gw gi gb n_).1.a)), (.int .u64 ((igetM img l gw gi gb n_).1.b)), (.int .u64 ((igetM img l gw gi gb n_).1.c)), (.int .u64 ((igetM img l gw gi gb n_).1.d)), (.int .u64 ((igetM img l gw gi gb n_).1.e)), (.int .u64 ((igetM img l gw gi gb n_).1.m))].toArray 78 (0, 0)), blk b4 (.cells [(.int .i64 gw), (.int .i64 gi), (.int .i64 gb)].toArray 23 (0, 0))] := hs26
   refine zE 2 (hK24 _ _ ?_)
   refine W.ret (ret_seq ?_)
   exfalso; omega
  ·
   have h21p := of_decide_eq_false h21
   refine W.skip ?_
   refine hK18 _ _ ?_
   refine W.seq fun K29 hK29 => ?_
   refine W.sr fun K30 hK30 => ?_
   refine zE 2 (hK30 _ _ ?_)
   refine W.cond (!decide ((igetM img l gw gi gb n_).2 = 0)) (by kernel_rfl) (fun h31 => ?_) (fun h31 => ?_)
   ·
    have h31p : ¬ ((igetM img l gw gi gb n_).2 = 0) := of_decide_eq_false (bnot_true h31)
    refine W.sr fun K32 hK32 => ?_
    refine zR 2 ?_
    have hs35 := St.f1 hs17
    refine ops_store (off := 0) (cs := [(.int .u64 0), (.int .u64 0), (.int .u64 0), (.int .u64 0), (.int .u64 0), (.int .u64 0), (.int .u64 0), (.int .u64 0), (.int .u64 0), (.int .u64 0)]) (vs := [(.int .u64 0), (.int .u64 0), (.int .u64 0), (.int .u64 0), (.int .u64 0), (.int .u64 0), (.int .u64 0), (.int .u64 0), (.int .u64 0), (.int .u64 0)]) hs35 (by kernel_rfl) (by simp) rfl (fun w33 hs34 => ?_)
    have hs36 : St B w [] w33 [blk b7 (.cells [(.int .u64 0), (.int .u64 0), (.int .u64 0), (.int .u64 0), (.int .u64 0), (.int .u64 0), (.int .u64 0), (.int .u64 0), (.int .u64 0), (.int .u64 0)].toArray 78 (0, 0)), blk b14 (.cells [(.int .u64 ((igetM img l gw gi gb n_).1.k)), (.int .u64 ((igetM img l gw gi gb n_).1.l)), (.int .u64 ((igetM img l gw gi gb n_).1.o)), (.int .u64 ((igetM img l gw gi gb n_).1.s)), (.int .u64 ((igetM img l gw gi gb n_).1.a)), (.int .u64 ((igetM img l gw gi gb n_).1.b)), (.int .u64 ((igetM img l gw gi gb n_).1.c)), (.int .u64 ((igetM img l gw gi gb n_).1.d)), (.int .u64 ((igetM img l gw gi gb n_).1.e)), (.int .u64 ((igetM img l gw gi gb n_).1.m))].toArray 78 (0, 0)), blk b4 (.cells [(.int .i64 gw), (.int .i64 gi), (.int .i64 gb)].toArray 23 (0, 0))] := hs34
    refine zE 2 (hK32 _ _ ?_)
    refine W.ret (ret_seq ?_)
    have hs37 := St.tk0 hs36
    refine ret_of (.tuple #[(.agg #[(.int .u64 0), (.int .u64 0), (.int .u64 0), (.int .u64 0), (.int .u64 0), (.int .u64 0), (.int .u64 0), (.int .u64 0), (.int .u64 0), (.int .u64 0)]), (.pointer none), (.int .i64 ((igetM img l gw gi gb n_).2))]) (resS_of (by kernel_rfl) (resD_three rfl (.agg (ad := ⟨b7, 0, none⟩) (cs := [(.int .u64 0), (.int .u64 0), (.int .u64 0), (.int .u64 0), (.int .u64 0), (.int .u64 0), (.int .u64 0), (.int .u64 0), (.int .u64 0), (.int .u64 0)]) (by kernel_rfl) (by kernel_rfl) (cells_sub (hs36.heapAt 0 rfl) rfl)) (.tmp (by kernel_rfl)) (.tmp (by kernel_rfl)))) ⟨_, ⟨rfl, rfl⟩, hs37⟩
   ·
    have h31p : (igetM img l gw gi gb n_).2 = 0 := of_decide_eq_true (bnot_false h31)
    refine W.skip ?_
    refine hK29 _ _ ?_
    refine W.sr fun K38 hK38 => ?_
    refine zR 1 ?_
    refine ops_R (runs_loadAgg (ad := ⟨b4, 0, none⟩) (cs := [(.int .i64 gw), (.int .i64 gi), (.int .i64 gb)]) (by kernel_rfl) (cells_sub (hs17.heapAt 2 rfl) rfl)) ?_
    refine zR 1 ?_
    rcases Bool.eq_false_or_eq_true (decide ((igetM img l gw gi gb n_).2 = 0)) with h39 | h39
    ·
     have h39p := of_decide_eq_true h39
     refine ops_call0 hs17 (by kernel_rfl) (bof_ok (gw := gw) (gi := gi) (gb := gb) (n_ := n_) (hv := (viewAt_old hs17 hv)) (hP := h39p) B _) ?_
     rintro _ _ w41 ⟨b40, rfl, rfl⟩ hs42
     have hs43 := St.ap1 hs42
     refine zE 5 (hK38 _ _ ?_)
     refine W.sr fun K44 hK44 => ?_
     refine ops_R (runs_loadAgg (ad := ⟨b14, 0, none⟩) (cs := [(.int .u64 ((igetM img l gw gi gb n_).1.k)), (.int .u64 ((igetM img l gw gi gb n_).1.l)), (.int .u64 ((igetM img l gw gi gb n_).1.o)), (.int .u64 ((igetM img l gw gi gb n_).1.s)), (.int .u64 ((igetM img l gw gi gb n_).1.a)), (.int .u64 ((igetM img l gw gi gb n_).1.b)), (.int .u64 ((igetM img l gw gi gb n_).1.c)), (.int .u64 ((igetM img l gw gi gb n_).1.d)), (.int .u64 ((igetM img l gw gi gb n_).1.e)), (.int .u64 ((igetM img l gw gi gb n_).1.m))]) (by kernel_rfl) (cells_sub (hs43.heapAt 1 rfl) rfl)) ?_
     refine zR 2 ?_
     have hs47 := St.f2 hs43
     refine ops_store (off := 0) (cs := [(.int .u64 0), (.int .u64 0), (.int .u64 0), (.int .u64 0), (.int .u64 0), (.int .u64 0), (.int .u64 0), (.int .u64 0), (.int .u64 0), (.int .u64 0)]) (vs := [(.int .u64 ((igetM img l gw gi gb n_).1.k)), (.int .u64 ((igetM img l gw gi gb n_).1.l)), (.int .u64 ((igetM img l gw gi gb n_).1.o)), (.int .u64 ((igetM img l gw gi gb n_).1.s)), (.int .u64 ((igetM img l gw gi gb n_).1.a)), (.int .u64 ((igetM img l gw gi gb n_).1.b)), (.int .u64 ((igetM img l gw gi gb n_).1.c)), (.int .u64 ((igetM img l gw gi gb n_).1.d)), (.int .u64 ((igetM img l gw gi gb n_).1.e)), (.int .u64 ((igetM img l gw gi gb n_).1.m))]) hs47 (by kernel_rfl) (by simp) rfl (fun w45 hs46 => ?_)
     have hs48 : St B w [] w45 [blk b7 (.cells [(.int .u64 ((igetM img l gw gi gb n_).1.k)), (.int .u64 ((igetM img l gw gi gb n_).1.l)), (.int .u64 ((igetM img l gw gi gb n_).1.o)), (.int .u64 ((igetM img l gw gi gb n_).1.s)), (.int .u64 ((igetM img l gw gi gb n_).1.a)), (.int .u64 ((igetM img l gw gi gb n_).1.b)), (.int .u64 ((igetM img l gw gi gb n_).1.c)), (.int .u64 ((igetM img l gw gi gb n_).1.d)), (.int .u64 ((igetM img l gw gi gb n_).1.e)), (.int .u64 ((igetM img l gw gi gb n_).1.m))].toArray 78 (0, 0)), blk b40 (.cells [(.pointer (some ⟨vb, 0, none⟩)), (.int .i64 gw), (.int .i64 gi), (.int .i64 gb), (.int .i64 n_)].toArray 85 (0, 0)), blk b14 (.cells [(.int .u64 ((igetM img l gw gi gb n_).1.k)), (.int .u64 ((igetM img l gw gi gb n_).1.l)), (.int .u64 ((igetM img l gw gi gb n_).1.o)), (.int .u64 ((igetM img l gw gi gb n_).1.s)), (.int .u64 ((igetM img l gw gi gb n_).1.a)), (.int .u64 ((igetM img l gw gi gb n_).1.b)), (.int .u64 ((igetM img l gw gi gb n_).1.c)), (.int .u64 ((igetM img l gw gi gb n_).1.d)), (.int .u64 ((igetM img l gw gi gb n_).1.e)), (.int .u64 ((igetM img l gw gi gb n_).1.m))].toArray 78 (0, 0)), blk b4 (.cells [(.int .i64 gw), (.int .i64 gi), (.int .i64 gb)].toArray 23 (0, 0))] := hs46
     refine zE 2 (hK44 _ _ ?_)
     refine W.ret ?_
     exfalso; omega
    ·
     have h39p := of_decide_eq_false h39
     refine zC00 hs17 (bof_err (gw := gw) (gi := gi) (gb := gb) (n_ := n_) (hv := (viewAt_old hs17 hv)) (hN := h39p) B _) fun w49 hs51 => ?_
     refine zE 5 (hK38 _ _ ?_)
     refine W.sr fun K52 hK52 => ?_
     refine ops_R (runs_loadAgg (ad := ⟨b14, 0, none⟩) (cs := [(.int .u64 ((igetM img l gw gi gb n_).1.k)), (.int .u64 ((igetM img l gw gi gb n_).1.l)), (.int .u64 ((igetM img l gw gi gb n_).1.o)), (.int .u64 ((igetM img l gw gi gb n_).1.s)), (.int .u64 ((igetM img l gw gi gb n_).1.a)), (.int .u64 ((igetM img l gw gi gb n_).1.b)), (.int .u64 ((igetM img l gw gi gb n_).1.c)), (.int .u64 ((igetM img l gw gi gb n_).1.d)), (.int .u64 ((igetM img l gw gi gb n_).1.e)), (.int .u64 ((igetM img l gw gi gb n_).1.m))]) (by kernel_rfl) (cells_sub (hs51.heapAt 0 rfl) rfl)) ?_
     refine zR 2 ?_
     have hs55 := St.f1 hs51
     refine ops_store (off := 0) (cs := [(.int .u64 0), (.int .u64 0), (.int .u64 0), (.int .u64 0), (.int .u64 0), (.int .u64 0), (.int .u64 0), (.int .u64 0), (.int .u64 0), (.int .u64 0)]) (vs := [(.int .u64 ((igetM img l gw gi gb n_).1.k)), (.int .u64 ((igetM img l gw gi gb n_).1.l)), (.int .u64 ((igetM img l gw gi gb n_).1.o)), (.int .u64 ((igetM img l gw gi gb n_).1.s)), (.int .u64 ((igetM img l gw gi gb n_).1.a)), (.int .u64 ((igetM img l gw gi gb n_).1.b)), (.int .u64 ((igetM img l gw gi gb n_).1.c)), (.int .u64 ((igetM img l gw gi gb n_).1.d)), (.int .u64 ((igetM img l gw gi gb n_).1.e)), (.int .u64 ((igetM img l gw gi gb n_).1.m))]) hs55 (by kernel_rfl) (by simp) rfl (fun w53 hs54 => ?_)
     have hs56 : St B w [] w53 [blk b7 (.cells [(.int .u64 ((igetM img l gw gi gb n_).1.k)), (.int .u64 ((igetM img l gw gi gb n_).1.l)), (.int .u64 ((igetM img l gw gi gb n_).1.o)), (.int .u64 ((igetM img l gw gi gb n_).1.s)), (.int .u64 ((igetM img l gw gi gb n_).1.a)), (.int .u64 ((igetM img l gw gi gb n_).1.b)), (.int .u64 ((igetM img l gw gi gb n_).1.c)), (.int .u64 ((igetM img l gw gi gb n_).1.d)), (.int .u64 ((igetM img l gw gi gb n_).1.e)), (.int .u64 ((igetM img l gw gi gb n_).1.m))].toArray 78 (0, 0)), blk b14 (.cells [(.int .u64 ((igetM img l gw gi gb n_).1.k)), (.int .u64 ((igetM img l gw gi gb n_).1.l)), (.int .u64 ((igetM img l gw gi gb n_).1.o)), (.int .u64 ((igetM img l gw gi gb n_).1.s)), (.int .u64 ((igetM img l gw gi gb n_).1.a)), (.int .u64 ((igetM img l gw gi gb n_).1.b)), (.int .u64 ((igetM img l gw gi gb n_).1.c)), (.int .u64 ((igetM img l gw gi gb n_).1.d)), (.int .u64 ((igetM img l gw gi gb n_).1.e)), (.int .u64 ((igetM img l gw gi gb n_).1.m))].toArray 78 (0, 0)), blk b4 (.cells [(.int .i64 gw), (.int .i64 gi), (.int .i64 gb)].toArray 23 (0, 0))] := hs54
     refine zE 2 (hK52 _ _ ?_)
     refine W.ret ?_
     exfalso; omega
 ·
  have h20p := of_decide_eq_false h20
  refine zS 21 h20 ?_
  refine zS 20 h20 ?_
  refine zE 4 (hK19 _ _ ?_)
  refine W.cond_false false (by kernel_rfl) rfl ?_
  refine W.skip ?_
  refine hK18 _ _ ?_
  refine W.seq fun K57 hK57 => ?_
  refine W.sr fun K58 hK58 => ?_
  refine zE 2 (hK58 _ _ ?_)
  refine W.cond (!decide ((igetM img l gw gi gb n_).2 = 0)) (by kernel_rfl) (fun h59 => ?_) (fun h59 => ?_)
  ·
   have h59p : ¬ ((igetM img l gw gi gb n_).2 = 0) := of_decide_eq_false (bnot_true h59)
   refine W.sr fun K60 hK60 => ?_
   refine zR 2 ?_
   have hs63 := St.f1 hs17
   refine ops_store (off := 0) (cs := [(.int .u64 0), (.int .u64 0), (.int .u64 0), (.int .u64 0), (.int .u64 0), (.int .u64 0), (.int .u64 0), (.int .u64 0), (.int .u64 0), (.int .u64 0)]) (vs := [(.int .u64 0), (.int .u64 0), (.int .u64 0), (.int .u64 0), (.int .u64 0), (.int .u64 0), (.int .u64 0), (.int .u64 0), (.int .u64 0), (.int .u64 0)]) hs63 (by kernel_rfl) (by simp) rfl (fun w61 hs62 => ?_)
   have hs64 : St B w [] w61 [blk b7 (.cells [(.int .u64 0), (.int .u64 0), (.int .u64 0), (.int .u64 0), (.int .u64 0), (.int .u64 0), (.int .u64 0), (.int .u64 0), (.int .u64 0), (.int .u64 0)].toArray 78 (0, 0)), blk b14 (.cells [(.int .u64 ((igetM img l gw gi gb n_).1.k)), (.int .u64 ((igetM img l gw gi gb n_).1.l)), (.int .u64 ((igetM img l gw gi gb n_).1.o)), (.int .u64 ((igetM img l gw gi gb n_).1.s)), (.int .u64 ((igetM img l gw gi gb n_).1.a)), (.int .u64 ((igetM img l gw gi gb n_).1.b)), (.int .u64 ((igetM img l gw gi gb n_).1.c)), (.int .u64 ((igetM img l gw gi gb n_).1.d)), (.int .u64 ((igetM img l gw gi gb n_).1.e)), (.int .u64 ((igetM img l gw gi gb n_).1.m))].toArray 78 (0, 0)), blk b4 (.cells [(.int .i64 gw), (.int .i64 gi), (.int .i64 gb)].toArray 23 (0, 0))] := hs62
   refine zE 2 (hK60 _ _ ?_)
   refine W.ret (ret_seq ?_)
   have hs65 := St.tk0 hs64
   refine ret_of (.tuple #[(.agg #[(.int .u64 0), (.int .u64 0), (.int .u64 0), (.int .u64 0), (.int .u64 0), (.int .u64 0), (.int .u64 0), (.int .u64 0), (.int .u64 0), (.int .u64 0)]), (.pointer none), (.int .i64 ((igetM img l gw gi gb n_).2))]) (resS_of (by kernel_rfl) (resD_three rfl (.agg (ad := ⟨b7, 0, none⟩) (cs := [(.int .u64 0), (.int .u64 0), (.int .u64 0), (.int .u64 0), (.int .u64 0), (.int .u64 0), (.int .u64 0), (.int .u64 0), (.int .u64 0), (.int .u64 0)]) (by kernel_rfl) (by kernel_rfl) (cells_sub (hs64.heapAt 0 rfl) rfl)) (.tmp (by kernel_rfl)) (.tmp (by kernel_rfl)))) ⟨_, ⟨rfl, rfl⟩, hs65⟩
  ·
   have h59p : (igetM img l gw gi gb n_).2 = 0 := of_decide_eq_true (bnot_false h59)
   refine W.skip ?_
   refine hK57 _ _ ?_
   refine W.sr fun K66 hK66 => ?_
   refine zR 1 ?_
   refine ops_R (runs_loadAgg (ad := ⟨b4, 0, none⟩) (cs := [(.int .i64 gw), (.int .i64 gi), (.int .i64 gb)]) (by kernel_rfl) (cells_sub (hs17.heapAt 2 rfl) rfl)) ?_
   refine zR 1 ?_
   rcases Bool.eq_false_or_eq_true (decide ((igetM img l gw gi gb n_).2 = 0)) with h67 | h67
   ·
    have h67p := of_decide_eq_true h67
    refine ops_call0 hs17 (by kernel_rfl) (bof_ok (gw := gw) (gi := gi) (gb := gb) (n_ := n_) (hv := (viewAt_old hs17 hv)) (hP := h67p) B _) ?_
    rintro _ _ w69 ⟨b68, rfl, rfl⟩ hs70
    have hs71 := St.ap1 hs70
    refine zE 5 (hK66 _ _ ?_)
    refine W.sr fun K72 hK72 => ?_
    refine ops_R (runs_loadAgg (ad := ⟨b14, 0, none⟩) (cs := [(.int .u64 ((igetM img l gw gi gb n_).1.k)), (.int .u64 ((igetM img l gw gi gb n_).1.l)), (.int .u64 ((igetM img l gw gi gb n_).1.o)), (.int .u64 ((igetM img l gw gi gb n_).1.s)), (.int .u64 ((igetM img l gw gi gb n_).1.a)), (.int .u64 ((igetM img l gw gi gb n_).1.b)), (.int .u64 ((igetM img l gw gi gb n_).1.c)), (.int .u64 ((igetM img l gw gi gb n_).1.d)), (.int .u64 ((igetM img l gw gi gb n_).1.e)), (.int .u64 ((igetM img l gw gi gb n_).1.m))]) (by kernel_rfl) (cells_sub (hs71.heapAt 1 rfl) rfl)) ?_
    refine zR 2 ?_
    have hs75 := St.f2 hs71
    refine ops_store (off := 0) (cs := [(.int .u64 0), (.int .u64 0), (.int .u64 0), (.int .u64 0), (.int .u64 0), (.int .u64 0), (.int .u64 0), (.int .u64 0), (.int .u64 0), (.int .u64 0)]) (vs := [(.int .u64 ((igetM img l gw gi gb n_).1.k)), (.int .u64 ((igetM img l gw gi gb n_).1.l)), (.int .u64 ((igetM img l gw gi gb n_).1.o)), (.int .u64 ((igetM img l gw gi gb n_).1.s)), (.int .u64 ((igetM img l gw gi gb n_).1.a)), (.int .u64 ((igetM img l gw gi gb n_).1.b)), (.int .u64 ((igetM img l gw gi gb n_).1.c)), (.int .u64 ((igetM img l gw gi gb n_).1.d)), (.int .u64 ((igetM img l gw gi gb n_).1.e)), (.int .u64 ((igetM img l gw gi gb n_).1.m))]) hs75 (by kernel_rfl) (by simp) rfl (fun w73 hs74 => ?_)
    have hs76 : St B w [] w73 [blk b7 (.cells [(.int .u64 ((igetM img l gw gi gb n_).1.k)), (.int .u64 ((igetM img l gw gi gb n_).1.l)), (.int .u64 ((igetM img l gw gi gb n_).1.o)), (.int .u64 ((igetM img l gw gi gb n_).1.s)), (.int .u64 ((igetM img l gw gi gb n_).1.a)), (.int .u64 ((igetM img l gw gi gb n_).1.b)), (.int .u64 ((igetM img l gw gi gb n_).1.c)), (.int .u64 ((igetM img l gw gi gb n_).1.d)), (.int .u64 ((igetM img l gw gi gb n_).1.e)), (.int .u64 ((igetM img l gw gi gb n_).1.m))].toArray 78 (0, 0)), blk b68 (.cells [(.pointer (some ⟨vb, 0, none⟩)), (.int .i64 gw), (.int .i64 gi), (.int .i64 gb), (.int .i64 n_)].toArray 85 (0, 0)), blk b14 (.cells [(.int .u64 ((igetM img l gw gi gb n_).1.k)), (.int .u64 ((igetM img l gw gi gb n_).1.l)), (.int .u64 ((igetM img l gw gi gb n_).1.o)), (.int .u64 ((igetM img l gw gi gb n_).1.s)), (.int .u64 ((igetM img l gw gi gb n_).1.a)), (.int .u64 ((igetM img l gw gi gb n_).1.b)), (.int .u64 ((igetM img l gw gi gb n_).1.c)), (.int .u64 ((igetM img l gw gi gb n_).1.d)), (.int .u64 ((igetM img l gw gi gb n_).1.e)), (.int .u64 ((igetM img l gw gi gb n_).1.m))].toArray 78 (0, 0)), blk b4 (.cells [(.int .i64 gw), (.int .i64 gi), (.int .i64 gb)].toArray 23 (0, 0))] := hs74
    refine zE 2 (hK72 _ _ ?_)
    refine W.ret ?_
    exfalso; omega
   ·
    have h67p := of_decide_eq_false h67
    refine zC00 hs17 (bof_err (gw := gw) (gi := gi) (gb := gb) (n_ := n_) (hv := (viewAt_old hs17 hv)) (hN := h67p) B _) fun w77 hs79 => ?_
    refine zE 5 (hK66 _ _ ?_)
    refine W.sr fun K80 hK80 => ?_
    refine ops_R (runs_loadAgg (ad := ⟨b14, 0, none⟩) (cs := [(.int .u64 ((igetM img l gw gi gb n_).1.k)), (.int .u64 ((igetM img l gw gi gb n_).1.l)), (.int .u64 ((igetM img l gw gi gb n_).1.o)), (.int .u64 ((igetM img l gw gi gb n_).1.s)), (.int .u64 ((igetM img l gw gi gb n_).1.a)), (.int .u64 ((igetM img l gw gi gb n_).1.b)), (.int .u64 ((igetM img l gw gi gb n_).1.c)), (.int .u64 ((igetM img l gw gi gb n_).1.d)), (.int .u64 ((igetM img l gw gi gb n_).1.e)), (.int .u64 ((igetM img l gw gi gb n_).1.m))]) (by kernel_rfl) (cells_sub (hs79.heapAt 0 rfl) rfl)) ?_
    refine zR 2 ?_
    have hs83 := St.f1 hs79
    refine ops_store (off := 0) (cs := [(.int .u64 0), (.int .u64 0), (.int .u64 0), (.int .u64 0), (.int .u64 0), (.int .u64 0), (.int .u64 0), (.int .u64 0), (.int .u64 0), (.int .u64 0)]) (vs := [(.int .u64 ((igetM img l gw gi gb n_).1.k)), (.int .u64 ((igetM img l gw gi gb n_).1.l)), (.int .u64 ((igetM img l gw gi gb n_).1.o)), (.int .u64 ((igetM img l gw gi gb n_).1.s)), (.int .u64 ((igetM img l gw gi gb n_).1.a)), (.int .u64 ((igetM img l gw gi gb n_).1.b)), (.int .u64 ((igetM img l gw gi gb n_).1.c)), (.int .u64 ((igetM img l gw gi gb n_).1.d)), (.int .u64 ((igetM img l gw gi gb n_).1.e)), (.int .u64 ((igetM img l gw gi gb n_).1.m))]) hs83 (by kernel_rfl) (by simp) rfl (fun w81 hs82 => ?_)
    have hs84 : St B w [] w81 [blk b7 (.cells [(.int .u64 ((igetM img l gw gi gb n_).1.k)), (.int .u64 ((igetM img l gw gi gb n_).1.l)), (.int .u64 ((igetM img l gw gi gb n_).1.o)), (.int .u64 ((igetM img l gw gi gb n_).1.s)), (.int .u64 ((igetM img l gw gi gb n_).1.a)), (.int .u64 ((igetM img l gw gi gb n_).1.b)), (.int .u64 ((igetM img l gw gi gb n_).1.c)), (.int .u64 ((igetM img l gw gi gb n_).1.d)), (.int .u64 ((igetM img l gw gi gb n_).1.e)), (.int .u64 ((igetM img l gw gi gb n_).1.m))].toArray 78 (0, 0)), blk b14 (.cells [(.int .u64 ((igetM img l gw gi gb n_).1.k)), (.int .u64 ((igetM img l gw gi gb n_).1.l)), (.int .u64 ((igetM img l gw gi gb n_).1.o)), (.int .u64 ((igetM img l gw gi gb n_).1.s)), (.int .u64 ((igetM img l gw gi gb n_).1.a)), (.int .u64 ((igetM img l gw gi gb n_).1.b)), (.int .u64 ((igetM img l gw gi gb n_).1.c)), (.int .u64 ((igetM img l gw gi gb n_).1.d)), (.int .u64 ((igetM img l gw gi gb n_).1.e)), (.int .u64 ((igetM img l gw gi gb n_).1.m))].toArray 78 (0, 0)), blk b4 (.cells [(.int .i64 gw), (.int .i64 gi), (.int .i64 gb)].toArray 23 (0, 0))] := hs82
    refine zE 2 (hK80 _ _ ?_)
    refine W.ret ?_
    exfalso; omega

theorem dfile_nil {gw gi gb n_ : Int} (B : Nat) (w : World) : Spec Tryd.prog 64 #[(.pointer none), (.agg #[(.int .i64 gw), (.int .i64 gi), (.int .i64 gb)]), (.int .i64 n_)] B w [] (fun v H' => v = (.tuple #[(.agg #[(.int .u64 0), (.int .u64 0), (.int .u64 0), (.int .u64 0), (.int .u64 0), (.int .u64 0), (.int .u64 0), (.int .u64 0), (.int .u64 0), (.int .u64 0)]), (.pointer none), (.int .i64 2)]) ∧ H' = []) := by
 refine spec_Q Tryd.func64 rfl fun hs => ?_
 refine W.sr fun K1 hK1 => ?_
 refine zN [(.int .i64 gw), (.int .i64 gi), (.int .i64 gb)] 23 hs fun b4 w2 hs3 => ?_
 refine zN [(.int .u64 0), (.int .u64 0), (.int .u64 0), (.int .u64 0), (.int .u64 0), (.int .u64 0), (.int .u64 0), (.int .u64 0), (.int .u64 0), (.int .u64 0)] 78 hs3 fun b7 w5 hs6 => ?_
 refine zE 2 (hK1 _ _ ?_)
 refine W.sr fun K8 hK8 => ?_
 refine zR 1 ?_
 refine ops_R (runs_loadAgg (ad := ⟨b4, 0, none⟩) (cs := [(.int .i64 gw), (.int .i64 gi), (.int .i64 gb)]) (by kernel_rfl) (cells_sub (hs6.heapAt 1 rfl) rfl)) ?_
 refine zR 1 ?_
 refine zC00 hs6 (ig_nil (gw := gw) (gi := gi) (gb := gb) (n_ := n_) B _) fun w9 hs11 => ?_
 refine zR 3 ?_
 refine zN [(.int .u64 0), (.int .u64 0), (.int .u64 0), (.int .u64 0), (.int .u64 0), (.int .u64 0), (.int .u64 0), (.int .u64 0), (.int .u64 0), (.int .u64 0)] 78 hs11 fun b14 w12 hs13 => ?_
 refine ops_store (off := 0) (cs := [(.int .u64 0), (.int .u64 0), (.int .u64 0), (.int .u64 0), (.int .u64 0), (.int .u64 0), (.int .u64 0), (.int .u64 0), (.int .u64 0), (.int .u64 0)]) (vs := [(.int .u64 0), (.int .u64 0), (.int .u64 0), (.int .u64 0), (.int .u64 0), (.int .u64 0), (.int .u64 0), (.int .u64 0), (.int .u64 0), (.int .u64 0)]) hs13 (by kernel_rfl) (by simp) rfl (fun w15 hs16 => ?_)
 have hs17 : St B w [] w15 [blk b14 (.cells [(.int .u64 0), (.int .u64 0), (.int .u64 0), (.int .u64 0), (.int .u64 0), (.int .u64 0), (.int .u64 0), (.int .u64 0), (.int .u64 0), (.int .u64 0)].toArray 78 (0, 0)), blk b7 (.cells [(.int .u64 0), (.int .u64 0), (.int .u64 0), (.int .u64 0), (.int .u64 0), (.int .u64 0), (.int .u64 0), (.int .u64 0), (.int .u64 0), (.int .u64 0)].toArray 78 (0, 0)), blk b4 (.cells [(.int .i64 gw), (.int .i64 gi), (.int .i64 gb)].toArray 23 (0, 0))] := hs16
 refine zE 1 (hK8 _ _ ?_)
 refine W.seq fun K18 hK18 => ?_
 refine W.sr fun K19 hK19 => ?_
 refine zE 7 (hK19 _ _ ?_)
 refine W.cond_false false (by kernel_rfl) rfl ?_
 refine W.skip ?_
 refine hK18 _ _ ?_
 refine W.seq fun K20 hK20 => ?_
 refine W.sr fun K21 hK21 => ?_
 refine zE 2 (hK21 _ _ ?_)
 refine W.cond_true true (by kernel_rfl) rfl ?_
 refine W.sr fun K22 hK22 => ?_
 refine zR 2 ?_
 have hs25 := St.f1 hs17
 refine ops_store (off := 0) (cs := [(.int .u64 0), (.int .u64 0), (.int .u64 0), (.int .u64 0), (.int .u64 0), (.int .u64 0), (.int .u64 0), (.int .u64 0), (.int .u64 0), (.int .u64 0)]) (vs := [(.int .u64 0), (.int .u64 0), (.int .u64 0), (.int .u64 0), (.int .u64 0), (.int .u64 0), (.int .u64 0), (.int .u64 0), (.int .u64 0), (.int .u64 0)]) hs25 (by kernel_rfl) (by simp) rfl (fun w23 hs24 => ?_)
 have hs26 : St B w [] w23 [blk b7 (.cells [(.int .u64 0), (.int .u64 0), (.int .u64 0), (.int .u64 0), (.int .u64 0), (.int .u64 0), (.int .u64 0), (.int .u64 0), (.int .u64 0), (.int .u64 0)].toArray 78 (0, 0)), blk b14 (.cells [(.int .u64 0), (.int .u64 0), (.int .u64 0), (.int .u64 0), (.int .u64 0), (.int .u64 0), (.int .u64 0), (.int .u64 0), (.int .u64 0), (.int .u64 0)].toArray 78 (0, 0)), blk b4 (.cells [(.int .i64 gw), (.int .i64 gi), (.int .i64 gb)].toArray 23 (0, 0))] := hs24
 refine zE 2 (hK22 _ _ ?_)
 refine W.ret (ret_seq ?_)
 have hs27 := St.tk0 hs26
 refine ret_of (.tuple #[(.agg #[(.int .u64 0), (.int .u64 0), (.int .u64 0), (.int .u64 0), (.int .u64 0), (.int .u64 0), (.int .u64 0), (.int .u64 0), (.int .u64 0), (.int .u64 0)]), (.pointer none), (.int .i64 2)]) (resS_of (by kernel_rfl) (resD_three rfl (.agg (ad := ⟨b7, 0, none⟩) (cs := [(.int .u64 0), (.int .u64 0), (.int .u64 0), (.int .u64 0), (.int .u64 0), (.int .u64 0), (.int .u64 0), (.int .u64 0), (.int .u64 0), (.int .u64 0)]) (by kernel_rfl) (by kernel_rfl) (cells_sub (hs26.heapAt 0 rfl) rfl)) (.tmp (by kernel_rfl)) (.tmp (by kernel_rfl)))) ⟨_, ⟨rfl, rfl⟩, hs27⟩

end Go.Proofs.YtmmclabkkigiaaaDoor
