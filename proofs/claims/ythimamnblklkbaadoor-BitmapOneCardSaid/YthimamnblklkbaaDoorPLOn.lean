/- BitmapOne: the plain law. -/
import Derived.Test.YthimamnblklkbaaDoorALOn
import Derived.Test.YthimamnblklkbaaDoorGD
namespace Go.Proofs.YthimamnblklkbaaDoor
open Go Go.RowKit
set_option linter.unusedVariables false

theorem bitmapone_law {ws : List Int} {many i_ : Int} {is_ : Bool} (hw : ∀ x ∈ ws, good_u64 x) (hm : 0 ≤ many ∧ many ≤ 65535) (hi : 0 ≤ i_ ∧ i_ ≤ 65535) : bitmapone_M ws many i_ is_ = some true := by
  have hw' : ∀ x ∈ ws, U64 x := fun x hx => by have := hw x hx; unfold good_u64 at this; unfold U64; omega
  refine Ok.true ?_
  unfold bitmapone_M
  have hwk : Ok (· = true) (works06_M.bind fun r => some r) := Ok.bind (S := (· = true)) ⟨_, works06_eq, rfl⟩ fun y hy => ⟨y, rfl, hy⟩
  refine Ok.ite (fun _ => hwk) fun h50 => Ok.ite (fun _ => hwk) fun h0 => ?_
  have em := Int.tmod_eq_emod_of_nonneg (a := many) (b := 64 * (ws.length : Int)) hm.1
  have m1 := Int.emod_nonneg many (b := 64 * (ws.length : Int)) (by omega)
  have m2 := Int.emod_lt_of_pos many (b := 64 * (ws.length : Int)) (by omega)
  rw [em]
  refine Ok.need (by omega) (Ok.need (by omega) (Ok.need (by omega) (Ok.need (by omega) (Ok.name fun n hn => ?_))))
  have hn1 : 1 ≤ n ∧ n ≤ 64 * (ws.length : Int) := by omega
  clear hn em m1 m2
  have ei := Int.tmod_eq_emod_of_nonneg (a := i_) (b := n) hi.1
  have i1 := Int.emod_nonneg i_ (b := n) (by omega)
  have i2 := Int.emod_lt_of_pos i_ (b := n) (by omega)
  rw [ei]
  obtain ⟨k, hk⟩ : ∃ k, k = i_ % n := ⟨_, rfl⟩
  rw [← hk] at i1 i2 ei ⊢
  rw [Int.tdiv_eq_ediv_of_nonneg i1, Int.tmod_eq_emod_of_nonneg i1]
  have hok0 : VOk ws [] := VOk.nil (by omega)
  have hv0 := VR.nil hw'
  obtain ⟨l', hl', hv, hok, hlen, _, hget, hbit⟩ := mset_in (is_ := is_) (at_ := 0) (i_ := k) (many := n) hv0 hok0 (by omega) (by omega) (by simp)
  have hb0 : ∀ l j, mbits ws l 0 j = gb ws l j := fun l j => by have := mbits_gb (img := ws) (l := l) (a := 0) j; simpa using this
  refine Ok.need (by omega) (Ok.need (by omega) (Ok.need (by omega) (Ok.need (by omega) (Ok.need (by omega) ?_))))
  refine Ok.bind (S := (· = _)) ⟨_, mcount_ok hv0 (by omega) (by omega), rfl⟩ fun c hc => ?_
  refine Ok.bind (S := (· = _)) ⟨_, mget_ok hv0 (by omega) (by omega), rfl⟩ fun g hg => ?_
  rw [decide_eq_true (by omega), Bool.true_and, hb0] at hg
  refine Ok.need (by omega) (Ok.need (by omega) (Ok.need (by omega) (Ok.need (by omega) ?_)))
  rw [shr_word hw' (by omega)]
  refine Ok.yes (by rw [hg]; split <;> simp_all) ?_
  refine Ok.bind (S := (· = _)) ⟨_, (mset_ok hv0 (by omega) (by omega)).trans (congrArg some hl'), rfl⟩ fun r hr => ?_
  subst hr
  refine Ok.yes rfl ?_
  refine Ok.bind (S := (· = _)) ⟨_, mget_ok hv (by omega) (by omega), rfl⟩ fun q hq => ?_
  rw [decide_eq_true (by omega), Bool.true_and, hbit, if_pos rfl] at hq
  subst hq
  refine Ok.yes Iff.rfl ?_
  -- the count
  have hcl := cnt_le (mbits ws [] 0) n.toNat
  have hcs := cnt_set (f := mbits ws [] 0) (j := k.toNat) (b := q) (n := n.toNat) (by omega)
  have hcn : cnt (mbits ws l' 0) n.toNat = cnt (fun i => if i = k.toNat then q else mbits ws [] 0 i) n.toNat := cnt_congr fun i _ => hbit i
  rw [← hcn, hb0, ← hg] at hcs
  have hcl2 := cnt_le (mbits ws l' 0) n.toNat
  have j2 : ∀ c' : Int, c' = (cnt (mbits ws l' 0) n.toNat : Nat) → Ok (· = true) (bitmapone_J2 ws i_ n (0, l') q c') := by
    intro c' hc'
    have hvl := vflat_length ws l'
    unfold bitmapone_J2
    rw [hvl]
    refine Ok.yes rfl ?_
    refine Ok.bind (S := (· = _)) ⟨_, mcount_ok hv (by omega) (by omega), rfl⟩ fun c2 hc2 => ?_
    refine Ok.yes (by rw [hc2, hc']) ?_
    refine Ok.iter (fun s => 0 ≤ s ∧ s ≤ 64 * (ws.length : Int)) (fun s => (64 * (ws.length : Int) - s).toNat) ?_ _ _ ⟨by omega, by omega⟩ (fuel_lt (by omega))
    intro kk s hs ih
    unfold bitmapone_B0
    rw [hvl, Int.tdiv_eq_ediv_of_nonneg hs.1, Int.tmod_eq_emod_of_nonneg hs.1, ei]
    refine Ok.need (by omega) (Ok.ite (fun hlt => ?_) fun _ => hwk)
    refine Ok.need (by omega) (Ok.need (by omega) (Ok.need (by omega) (Ok.need (by omega) (Ok.need (by omega) (Ok.need (by omega) (Ok.need (by omega) (Ok.need (by omega) ?_)))))))
    have j4 : ∀ b : Bool, b = gb ws l' s.toNat → Ok (· = true) (bitmapone_J4 ws n (0, l') kk s b) := by
      intro b hb
      unfold bitmapone_J4
      rw [Int.tdiv_eq_ediv_of_nonneg hs.1, Int.tmod_eq_emod_of_nonneg hs.1, shr_flat hok hv (by omega)]
      refine Ok.yes (by rw [hb]; split <;> simp_all) ?_
      refine Ok.bind (S := (· = _)) ⟨_, mget_ok hv (by omega) (by omega), rfl⟩ fun q2 hq2 => ?_
      rw [hb0] at hq2
      have hnext : Ok (· = true) (need (-9223372036854775808 ≤ (s + 1) ∧ (s + 1) ≤ 9223372036854775807) <| kk (s + 1)) := Ok.need (by omega) (ih _ (by omega) (by omega))
      by_cases hg2 : gb ws l' s.toNat = true
      · rw [if_pos hg2]
        refine Ok.yes rfl (Ok.yes ?_ hnext)
        rw [hq2, hg2, Bool.and_true, decide_eq_true_iff]
        omega
      · rw [if_neg hg2]
        refine Ok.no (by decide) (Ok.yes ?_ hnext)
        rw [hq2]
        simp only [Bool.and_eq_true, iff_false, not_and]
        exact fun _ => hg2
    have hbs := hbit s.toNat
    rw [hb0, hb0] at hbs
    refine Ok.ite (fun he => j4 _ ?_) fun he => j4 _ ?_
    · rw [hbs, if_pos (by omega)]
    · rw [hbs, if_neg (by omega), shr_word hw' (by omega)]
      cases gb ws [] s.toNat <;> simp
  have j1 : ∀ c' : Int, c' = c + (if q = true ∧ g = false then 1 else 0) → Ok (· = true) (bitmapone_J1 ws i_ n g (0, l') q c') := by
    intro c' hc'
    unfold bitmapone_J1
    cases q <;> cases g <;> simp at hc' hcs
    · refine Ok.no (by decide) ?_
      unfold bitmapone_J5
      exact Ok.no (by decide) (j2 _ (by omega))
    · refine Ok.no (by decide) ?_
      unfold bitmapone_J5
      exact Ok.yes rfl (Ok.need (by omega) (j2 _ (by omega)))
    · refine Ok.yes rfl ?_
      unfold bitmapone_J5
      exact Ok.no (by decide) (j2 _ (by omega))
    · refine Ok.yes rfl ?_
      unfold bitmapone_J5
      exact Ok.no (by decide) (j2 _ (by omega))
  refine Ok.ite (fun h1 => ?_) fun h1 => ?_
  · subst h1
    unfold bitmapone_J6
    refine Ok.ite (fun h2 => Ok.need (by omega) (j1 _ ?_)) fun h2 => j1 _ ?_
    · cases g <;> simp_all
    · cases g <;> simp_all
  · have h1' : q = false := by simpa using h1
    subst h1'
    unfold bitmapone_J6
    exact Ok.no (by decide) (j1 _ (by simp))
end Go.Proofs.YthimamnblklkbaaDoor
