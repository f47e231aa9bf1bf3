/- AllocLeast: the plain law. -/
import Derived.Test.YthimamnblklkbaaDoorALaLe
import Derived.Test.YthimamnblklkbaaDoorGG
import Derived.Test.YthimamnblklkbaaDoorGH
namespace Go.Proofs.YthimamnblklkbaaDoor
open Go Go.RowKit
set_option linter.unusedVariables false

section
variable {gi gb : Int} {ws : List Int} {fi fb : Nat → Bool}
theorem taken_ok (h : Gd gi gb ws fi fb) {n : Nat} (hn : n < gb.toNat) (h0 : fb n = false) (h1 : ∀ j, j < n → fb j = true) : ∃ ws', taken_M ws 1 gi gb = some (ws', (n : Int), 0, true) ∧ Gd gi gb ws' fi (fun j => if j = n then true else fb j) := by
  obtain ⟨ho, hv, hl, hl2⟩ := h.ok
  have hm_ := may_out h.may
  have hw := words_may h.may
  rcases h.takeB with ⟨i, l, a1, a2, a3, a4, a5, a6, _, _, _, a7⟩ | ⟨a1, _⟩
  · have e : i = n := by
      rcases Nat.lt_trichotomy i n with q | q | q
      · rw [h1 i q] at a2; cases a2
      · exact q
      · rw [a3 n q] at h0; cases h0
    subst e
    refine ⟨vflat ws l, ?_, a7⟩
    unfold taken_M
    refine need_of (by omega) (need_of (by omega) ?_)
    rw [if_pos ⟨h.may, by omega⟩, place7 h.may]
    refine bind_of (atakeb_ok hv (by omega) (by omega)) ?_
    simp only [Int.reduceMul, Int.reduceAdd]
    rw [a4]
  · rw [a1 n hn] at h0; cases h0
theorem taken_full (h : Gd gi gb ws fi fb) (h1 : ∀ j, j < gb.toNat → fb j = true) : ∃ ws', taken_M ws 1 gi gb = some (ws', 0, 7, true) := by
  obtain ⟨ho, hv, hl, hl2⟩ := h.ok
  have hm_ := may_out h.may
  have hw := words_may h.may
  rcases h.takeB with ⟨i, l, a1, a2, _⟩ | ⟨_, a4⟩
  · rw [h1 i a1] at a2; cases a2
  · refine ⟨vflat ws [], ?_⟩
    unfold taken_M
    refine need_of (by omega) (need_of (by omega) ?_)
    rw [if_pos ⟨h.may, by omega⟩, place7 h.may]
    refine bind_of (atakeb_ok hv (by omega) (by omega)) ?_
    simp only [Int.reduceMul, Int.reduceAdd]
    rw [a4]
theorem given_ok (h : Gd gi gb ws fi fb) {n : Int} (hn : 1 ≤ n ∧ n < gb) : ∃ ws' e, given_M ws 1 gi gb n = some (ws', e, true) ∧ (e = 0 ↔ fb n.toNat = true) ∧ (e = 0 ∨ e = 3) ∧ Gd gi gb ws' fi (fun j => if j = n.toNat then false else fb j) := by
  obtain ⟨ho, hv, hl, hl2⟩ := h.ok
  have hm_ := may_out h.may
  have hw := words_may h.may
  obtain ⟨e, l, a1, a2, a3, a4, a5, a6, _, a7⟩ := h.giveB (n := n)
  refine ⟨vflat ws l, e, ?_, ⟨fun q => (a5.1 q).2, fun q => a5.2 ⟨hn, q⟩⟩, a6 hn, a7.congr (fun _ _ => rfl) fun j hj => ?_⟩
  · unfold given_M
    refine need_of (by omega) (need_of (by omega) ?_)
    rw [if_pos ⟨h.may, by omega⟩, place7 h.may]
    unfold agiveb_M
    refine bind_of (bind_of (agive_ok hv (by omega) (by omega)) rfl) ?_
    simp only [Int.reduceMul, Int.reduceAdd]
    rw [a1]
  · by_cases q : j = n.toNat
    · rw [if_pos q]
      by_cases he : e = 0
      · rw [if_pos ⟨he, q⟩]
      · rw [if_neg (fun z => he z.1), q]
        cases hb : fb n.toNat with
        | false => rfl
        | true => exact absurd (a5.2 ⟨hn, hb⟩) he
    · rw [if_neg q, if_neg (fun z => q z.2)]
end

theorem allocleast_law {b_ : Int} {ls : List Int} (hb : 0 ≤ b_ ∧ b_ ≤ 255) (hl : ∀ x ∈ ls, good_u8 x) : allocleast_M b_ ls = some true := by
  refine Ok.true ?_
  have hwk : Ok (· = true) (works07_M.bind fun r => some r) := Ok.bind (S := (· = true)) ⟨_, works07_eq, rfl⟩ fun y hy => ⟨y, rfl, hy⟩
  have et : b_.tmod 30 = b_ % 30 := Int.tmod_eq_emod_of_nonneg hb.1
  unfold allocleast_M
  rw [et]
  refine Ok.ite (fun _ => hwk) fun h30 => Ok.need (by omega) (Ok.need (by omega) ?_)
  obtain ⟨gb, hgb⟩ : ∃ gb, gb = 2 + b_ % 30 := ⟨_, rfl⟩
  rw [← hgb]
  have hg : 2 ≤ gb ∧ gb ≤ 31 := by omega
  have hM : May 1 2 gb := by unfold May; omega
  have fi : Nat → Bool := fun j => decide (j < 2)
  -- behind all
  have j2 : ∀ (q : List Int) (fr : List Bool), fr.length = 32 → Gd 2 gb q (fun j => decide (j < 2)) (fun j => decide (j = 0) || !fr.getD j false) → Ok (· = true) (allocleast_J2 b_ q fr) := by
    intro q fr hfr hG
    unfold allocleast_J2
    refine Ok.iter (fun s : List Int × Int => 1 ≤ s.2 ∧ s.2 ≤ gb ∧ Gd 2 gb s.1 (fun j => decide (j < 2)) (fun j => decide ((j : Int) < s.2) || !fr.getD j false)) (fun s => (gb - s.2).toNat) ?_ _ _ ⟨by simp, by simp only; omega, hG.congr (fun _ _ => rfl) fun j hj => by
      congr 1
      exact decide_eq_decide.2 (by simp only; omega)⟩ (fuel_lt (by simp only; omega))
    rintro k ⟨q, n⟩ ⟨h1, h2, h3⟩ ih
    simp only at h1 h2 h3 ih
    unfold allocleast_B2
    simp only
    rw [et, ← hgb]
    refine Ok.ite (fun hn => Ok.need (by omega) (Ok.need hfr ?_)) fun hn => ?_
    · refine Ok.ite (fun hf => ?_) fun hf => Ok.need (by omega) (ih _ ⟨by simp only; omega, by simp only; omega, h3.congr (fun _ _ => rfl) fun j hj => ?_⟩ (by simp only; omega))
      · obtain ⟨ws', a1, a2⟩ := taken_ok h3 (n := n.toNat) (by omega) (by rw [hf]; simp; omega) (fun j hj => by rw [decide_eq_true (by omega), Bool.true_or])
        refine Ok.bind (S := (· = _)) ⟨_, a1, rfl⟩ fun x hx => ?_
        subst hx
        refine Ok.yes rfl (Ok.yes rfl (Ok.yes (by simp only; omega) (Ok.need (by omega) (ih _ ⟨by simp only; omega, by simp only; omega, a2.congr (fun _ _ => rfl) fun j hj => ?_⟩ (by simp only; omega)))))
        simp only
        by_cases e : j = n.toNat
        · rw [if_pos e, decide_eq_true (by omega), Bool.true_or]
        · rw [if_neg e]
          congr 1
          exact decide_eq_decide.2 (by omega)
      · simp only
        by_cases e : j = n.toNat
        · rw [e]
          have hff : fr.getD n.toNat false = false := by simpa using hf
          rw [hff]; simp
        · congr 1
          exact decide_eq_decide.2 (by omega)
    · unfold allocleast_J3
      rw [et, ← hgb]
      obtain ⟨ws', a1⟩ := taken_full h3 (fun j hj => by rw [decide_eq_true (by omega), Bool.true_or])
      refine Ok.bind (S := (· = _)) ⟨_, a1, rfl⟩ fun x hx => ?_
      subst hx
      exact Ok.yes rfl (Ok.yes rfl (Ok.yes rfl hwk))
  have j1 : ∀ q : List Int, Gd 2 gb q (fun j => decide (j < 2)) (fun _ => true) → Ok (· = true) (allocleast_J1 b_ ls q) := by
    intro q hG
    unfold allocleast_J1
    refine Ok.iter (fun s : List Int × List Bool × Int => s.2.1.length = 32 ∧ 0 ≤ s.2.2 ∧ s.2.2 ≤ (ls.length : Int) ∧ Gd 2 gb s.1 (fun j => decide (j < 2)) (fun j => decide (j = 0) || !s.2.1.getD j false)) (fun s => ((ls.length : Int) - s.2.2).toNat) ?_ _ _ ⟨by simp, by simp, by simp, hG.congr (fun _ _ => rfl) fun j hj => by
      have : (List.replicate 32 false).getD j false = false := by rw [List.getD_eq_getElem?_getD, List.getElem?_replicate]; split <;> rfl
      rw [this]; simp⟩ (fuel_lt (by simp only; omega))
    rintro k ⟨q, fr, p⟩ ⟨h1, h2, h3, h4⟩ ih
    simp only at h1 h2 h3 h4 ih
    unfold allocleast_B1
    simp only
    refine Ok.ite (fun hp => ?_) fun _ => j2 q fr h1 h4
    have hmem : ls.getD p.toNat 0 ∈ ls := by
      have : p.toNat < ls.length := by omega
      simp [List.getD, this]
    have hx := hl _ hmem
    unfold good_u8 at hx
    have ex := Int.tmod_eq_emod_of_nonneg (a := ls.getD p.toNat 0) (b := gb - 1) hx.1
    have x1 := Int.emod_nonneg (ls.getD p.toNat 0) (b := gb - 1) (by omega)
    have x2 := Int.emod_lt_of_pos (ls.getD p.toNat 0) (b := gb - 1) (by omega)
    rw [et, ← hgb, ex]
    obtain ⟨n, hn⟩ : ∃ n, n = 1 + ls.getD p.toNat 0 % (gb - 1) := ⟨_, rfl⟩
    rw [← hn]
    refine Ok.need (by omega) (Ok.need (by omega) (Ok.need (by omega) (Ok.need (by omega) (Ok.need (by omega) ?_))))
    obtain ⟨ws', e, a1, a2, a3, a4⟩ := given_ok h4 (n := n) (by omega)
    refine Ok.bind (S := (· = _)) ⟨_, a1, rfl⟩ fun x hx => ?_
    subst hx
    refine Ok.yes rfl (Ok.need (by omega) (Ok.need h1 ?_))
    have hbit : e = 0 ↔ ¬ fr.getD n.toNat false = true := by
      rw [a2, decide_eq_false (by omega), Bool.false_or]
      cases fr.getD n.toNat false <;> simp
    have j6 : Ok (· = true) (allocleast_J6 b_ ls k fr p (ws', e, true)) := by
      unfold allocleast_J6
      rw [et, ← hgb, ex, ← hn]
      refine Ok.need (by omega) (Ok.need h1 (Ok.need (by omega) (ih _ ⟨by simpa using h1, by simp only; omega, by simp only; omega, a4.congr (fun _ _ => rfl) fun j hj => ?_⟩ (by simp only; omega))))
      simp only
      rw [getD_set (by omega)]
      by_cases q : j = n.toNat
      · rw [if_pos q, if_pos q, decide_eq_false (by omega)]; rfl
      · rw [if_neg q, if_neg q]
    refine Ok.no (fun q => ?_) (Ok.ite (fun _ => j6) fun h0 => Ok.yes (a3.resolve_left h0) j6)
    by_cases hf : fr.getD n.toNat false = true
    · exact (hbit.1 (q.2 hf)) hf
    · exact hf (q.1 (hbit.2 hf))
  refine Ok.iter (fun s : List Int × Int => 1 ≤ s.2 ∧ s.2 ≤ gb ∧ Gd 2 gb s.1 (fun j => decide (j < 2)) (fun j => decide ((j : Int) < s.2))) (fun s => (gb - s.2).toNat) ?_ _ _ ⟨by simp, by simp only; omega, (Gd.fmt hM).congr (fun _ _ => rfl) fun j hj => decide_eq_decide.2 (by simp only; omega)⟩ (fuel_lt (by simp only; omega))
  rintro k ⟨q, n⟩ ⟨h1, h2, h3⟩ ih
  simp only at h1 h2 h3 ih
  unfold allocleast_B0
  simp only
  rw [et, ← hgb]
  refine Ok.ite (fun hn => ?_) fun hn => j1 q (h3.congr (fun _ _ => rfl) fun j hj => decide_eq_true (by omega))
  obtain ⟨ws', a1, a2⟩ := taken_ok h3 (n := n.toNat) (by omega) (decide_eq_false (by omega)) (fun j hj => decide_eq_true (by omega))
  refine Ok.bind (S := (· = _)) ⟨_, a1, rfl⟩ fun x hx => ?_
  subst hx
  refine Ok.yes rfl (Ok.yes rfl (Ok.yes (by simp only; omega) (Ok.need (by omega) (ih _ ⟨by simp only; omega, by simp only; omega, a2.congr (fun _ _ => rfl) fun j hj => ?_⟩ (by simp only; omega)))))
  simp only
  by_cases e : j = n.toNat
  · rw [if_pos e, decide_eq_true (by omega)]
  · rw [if_neg e]
    exact decide_eq_decide.2 (by omega)
end Go.Proofs.YthimamnblklkbaaDoor
