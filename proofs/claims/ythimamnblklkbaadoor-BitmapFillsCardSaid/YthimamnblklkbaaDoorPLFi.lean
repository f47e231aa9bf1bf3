/- BitmapFills: the plain law. -/
import Derived.Test.YthimamnblklkbaaDoorALFi
import Derived.Test.YthimamnblklkbaaDoorGD
namespace Go.Proofs.YthimamnblklkbaaDoor
open Go Go.RowKit
set_option linter.unusedVariables false

theorem bitmapfills_law {ws : List Int} {at_ many : Int} (hw : ∀ x ∈ ws, good_u64 x) (ha : 0 ≤ at_ ∧ at_ ≤ 255) (hm : 0 ≤ many ∧ many ≤ 255) : bitmapfills_M ws at_ many = some true := by
  have hw' : ∀ x ∈ ws, U64 x := fun x hx => by have := hw x hx; unfold good_u64 at this; unfold U64; omega
  refine Ok.true ?_
  unfold bitmapfills_M
  have hwk : Ok (· = true) (works06_M.bind fun r => some r) := Ok.bind (S := (· = true)) ⟨_, works06_eq, rfl⟩ fun y hy => ⟨y, rfl, hy⟩
  refine Ok.ite (fun _ => hwk) fun h50 => Ok.ite (fun _ => hwk) fun h0 => ?_
  have ea := Int.tmod_eq_emod_of_nonneg (a := at_) (b := (ws.length : Int)) ha.1
  have a1 := Int.emod_nonneg at_ (b := (ws.length : Int)) (by omega)
  have a2 := Int.emod_lt_of_pos at_ (b := (ws.length : Int)) (by omega)
  rw [ea]
  refine Ok.need (by omega) (Ok.need (by omega) (Ok.name fun a hA => ?_))
  obtain ⟨f, rfl⟩ : ∃ f : Nat, a = (f : Int) := ⟨a.toNat, by omega⟩
  have hf : f < ws.length := by omega
  clear hA ea a1 a2
  have em := Int.tmod_eq_emod_of_nonneg (a := many) (b := 64 * ((ws.length : Int) - f)) hm.1
  have m1 := Int.emod_nonneg many (b := 64 * ((ws.length : Int) - f)) (by omega)
  have m2 := Int.emod_lt_of_pos many (b := 64 * ((ws.length : Int) - f)) (by omega)
  rw [em]
  refine Ok.need (by omega) (Ok.need (by omega) (Ok.need (by omega) (Ok.need (by omega) (Ok.need (by omega) (Ok.name fun n hn => ?_)))))
  obtain ⟨n, rfl⟩ : ∃ n' : Nat, n = (n' : Int) := ⟨n.toNat, by omega⟩
  have hn1 : 1 ≤ n ∧ n ≤ 64 * (ws.length - f) := by omega
  clear hn em m1 m2
  have hok0 : VOk ws [] := VOk.nil (by omega)
  have hv0 := VR.nil hw'
  refine Ok.need (by omega) (Ok.need (by omega) (Ok.need (by omega) ?_))
  -- behind all rounds
  have j1 : ∀ l, VOk ws l → VR ws l → (∀ i, gb ws l i = if 64 * f ≤ i ∧ i < 64 * f + n then true else gb ws [] i) → Ok (· = true) (bitmapfills_J1 ws f n l) := by
    intro l hok hv hgb
    have hvl := vflat_length ws l
    unfold bitmapfills_J1
    refine Ok.bind (S := (· = _)) ⟨_, mcount_ok hv (by omega) (by omega), rfl⟩ fun c hc => ?_
    have hc2 : c = (n : Int) := by
      rw [hc, cnt_full]
      · omega
      · intro i hi
        rw [mbits_gb, hgb, if_pos (by omega)]
    rw [hvl]
    refine Ok.yes hc2 (Ok.yes rfl ?_)
    refine Ok.iter (fun s => 0 ≤ s ∧ s ≤ 64 * (ws.length : Int)) (fun s => (64 * (ws.length : Int) - s).toNat) ?_ _ _ ⟨by omega, by omega⟩ (fuel_lt (by omega))
    intro kk s hs ih
    unfold bitmapfills_B2
    rw [hvl, Int.tdiv_eq_ediv_of_nonneg hs.1, Int.tmod_eq_emod_of_nonneg hs.1]
    refine Ok.need (by omega) (Ok.ite (fun hlt => ?_) fun _ => hwk)
    rw [shr_flat hok hv (by omega)]
    refine Ok.need (by omega) (Ok.need (by omega) (Ok.need (by omega) (Ok.need (by omega) (Ok.name fun r hr => Ok.need (by omega) ?_))))
    have hnext : Ok (· = true) (need (-9223372036854775808 ≤ (s + 1) ∧ (s + 1) ≤ 9223372036854775807) <| kk (s + 1)) := Ok.need (by omega) (ih _ (by omega) (by omega))
    rw [hgb] at hr
    have j3 : (¬ (64 * f ≤ s.toNat ∧ s.toNat < 64 * f + n)) → Ok (· = true) (bitmapfills_J3 ws kk s r false) := by
      intro hq
      unfold bitmapfills_J3
      rw [if_neg hq] at hr
      rw [Int.tdiv_eq_ediv_of_nonneg hs.1, Int.tmod_eq_emod_of_nonneg hs.1, shr_word hw' (by omega)]
      exact Ok.no (by decide) (Ok.need (by omega) (Ok.need (by omega) (Ok.need (by omega) (Ok.need (by omega) (Ok.yes hr hnext)))))
    refine Ok.ite (fun h1 => Ok.need (by omega) (Ok.need (by omega) ?_)) fun h1 => j3 (by omega)
    by_cases h2 : s < 64 * (f : Int) + n
    · rw [decide_eq_true h2]
      have hr1 : r = 1 := by rw [hr, if_pos (show 64 * f ≤ s.toNat ∧ s.toNat < 64 * f + n by omega), if_pos rfl]
      unfold bitmapfills_J3
      exact Ok.yes rfl (Ok.yes hr1 hnext)
    · rw [decide_eq_false h2]
      exact j3 (by omega)
  -- the rounds
  refine Ok.iter (fun s : List (Int × Int) × Int × Int => VOk ws s.1 ∧ VR ws s.1 ∧ -1 ≤ s.2.1 ∧ s.2.1 < (n : Int) ∧ 0 ≤ s.2.2 ∧ s.2.2 ≤ s.2.1 + 1 ∧ ∀ i : Nat, gb ws s.1 i = if 64 * f ≤ i ∧ (i : Int) < 64 * (f : Int) + (s.2.1 + 1) then true else gb ws [] i) (fun s => ((n : Int) - s.2.1).toNat) ?_ _ _ ⟨hok0, hv0, by simp, by simp only; omega, by simp, by simp, fun i => by rw [if_neg (by simp only; omega)]⟩ (fuel_lt (by simp only; omega))
  rintro k ⟨l, last, i⟩ ⟨hok, hv, h1, h2, h3, h4, hgb⟩ ih
  simp only at hok hv h1 h2 h3 h4 hgb ih
  unfold bitmapfills_B0
  simp only
  refine Ok.yes (by omega) ?_
  refine Ok.bind (S := (· = _)) ⟨_, mclear_ok hv (by omega) (by omega), rfl⟩ fun r hr => ?_
  have hlen := hok.len
  rcases lst_cases (mbits ws l f) n with ⟨c, c1, c2, c3, c4⟩ | ⟨c1, c4⟩
  · rw [Int.toNat_natCast, c4] at hr
    subst hr
    rw [mbits_gb, hgb] at c2
    have hcl : (last : Int) < c := by
      refine Int.lt_of_not_ge fun hge => ?_
      rw [if_pos (by omega)] at c2
      cases c2
    rw [if_neg (by omega)] at c2
    refine Ok.yes rfl (Ok.no (by simp only; omega) (Ok.no (by simp only; omega) ?_))
    simp only
    have e1 : ((c : Nat) : Int).tdiv 64 = (c : Int) / 64 := Int.tdiv_eq_ediv_of_nonneg (by omega)
    have e2 : ((c : Nat) : Int).tmod 64 = (c : Int) % 64 := Int.tmod_eq_emod_of_nonneg (by omega)
    rw [e1, e2]
    have hcell : ∀ j : Int, 0 ≤ j → j < n → (shrK .u64 (ws.getD ((f : Int) + j / 64).toNat 0) (j % 64)).tmod 2 = if gb ws [] (64 * f + j.toNat) = true then 1 else 0 := by
      intro j hj0 hj
      have h := shr_word hw' (i := 64 * (f : Int) + j) (by omega)
      rw [show (64 * (f : Int) + j) / 64 = (f : Int) + j / 64 by omega, show (64 * (f : Int) + j) % 64 = j % 64 by omega, show (64 * (f : Int) + j).toNat = 64 * f + j.toNat by omega] at h
      exact h
    refine Ok.need (by omega) (Ok.need (by omega) (Ok.need (by omega) (Ok.need (by omega) (Ok.need (by omega) ?_))))
    rw [hcell c (by omega) (by omega), Int.toNat_natCast, c2]
    refine Ok.no (by decide) ?_
    obtain ⟨l', hl', hv', hok', _, _, hget, hbit⟩ := mset_in (is_ := true) (at_ := (f : Int)) (i_ := (c : Int)) (many := (n : Int)) hv hok (by omega) (by omega) (by omega)
    refine Ok.bind (S := (· = _)) ⟨_, (mset_ok hv (by omega) (by omega)).trans (congrArg some hl'), rfl⟩ fun q hq => ?_
    subst hq
    refine Ok.yes rfl (Ok.no (by omega) (Ok.need (by omega) ?_))
    have hgb' : ∀ i : Nat, gb ws l' i = if i = 64 * f + c then true else gb ws l i := by
      intro i
      unfold gb
      rw [hget]
      by_cases e : ((i / 64 : Nat) : Int) = (f : Int) + (c : Int) / 64
      · rw [if_pos e, bitI_setb (hv _) (by omega)]
        by_cases e2 : i % 64 = ((c : Int) % 64).toNat
        · rw [if_pos e2, if_pos (by omega)]
        · rw [if_neg e2, if_neg (fun h => e2 (by omega))]
      · rw [if_neg e, if_neg (fun h => e (by omega))]
    -- between the last one and this one all were 1
    refine Ok.iter (fun s => last + 1 ≤ s ∧ s ≤ (c : Int)) (fun s => ((c : Int) - s).toNat) ?_ _ _ ⟨by omega, by omega⟩ (fuel_lt (by omega))
    intro kk s hs ih2
    unfold bitmapfills_B1
    refine Ok.ite (fun hlt => ?_) fun hge => ?_
    · simp only at hlt
      have f1 : s.tdiv 64 = s / 64 := Int.tdiv_eq_ediv_of_nonneg (by omega)
      have f2 : s.tmod 64 = s % 64 := Int.tmod_eq_emod_of_nonneg (by omega)
      rw [f1, f2, hcell s (by omega) (by omega)]
      have c5 := c3 s.toNat (by omega)
      rw [mbits_gb, hgb, if_neg (by omega)] at c5
      rw [c5]
      exact Ok.need (by omega) (Ok.need (by omega) (Ok.need (by omega) (Ok.need (by omega) (Ok.need (by omega) (Ok.no (by decide) (Ok.need (by omega) (ih2 _ (by omega) (by omega))))))))
    · simp only at hge
      refine Ok.need (by omega) (ih _ ⟨hok', hv', by simp only; omega, by simp only; omega, by simp only; omega, by simp only; omega, fun j => ?_⟩ (by simp only; omega))
      simp only
      rw [hgb']
      by_cases e : j = 64 * f + c
      · rw [if_pos e, if_pos (by omega)]
      · rw [if_neg e]
        by_cases e2 : 64 * f ≤ j ∧ (j : Int) < 64 * f + ((c : Int) + 1)
        · rw [if_pos e2]
          have c5 := c3 (j - 64 * f) (by omega)
          rw [mbits_gb, show 64 * f + (j - 64 * f) = j by omega] at c5
          exact c5
        · rw [if_neg e2, hgb, if_neg (by omega)]
  · rw [Int.toNat_natCast, c4] at hr
    subst hr
    refine Ok.no (by decide) (j1 l hok hv fun j => ?_)
    by_cases e : 64 * f ≤ j ∧ j < 64 * f + n
    · rw [if_pos e]
      have c5 := c1 (j - 64 * f) (by omega)
      rw [mbits_gb, show 64 * f + (j - 64 * f) = j by omega] at c5
      exact c5
    · rw [if_neg e, hgb, if_neg (by omega)]
end Go.Proofs.YthimamnblklkbaaDoor
