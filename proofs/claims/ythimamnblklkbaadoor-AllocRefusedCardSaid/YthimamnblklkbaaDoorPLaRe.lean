/- AllocRefused: the plain law. -/
import Derived.Test.YthimamnblklkbaaDoorALaRe
import Derived.Test.YthimamnblklkbaaDoorGG
import Derived.Test.YthimamnblklkbaaDoorGH
namespace Go.Proofs.YthimamnblklkbaaDoor
open Go Go.RowKit
set_option linter.unusedVariables false

theorem allocrefused_law {b_ n_ : Int} (hb : 0 ≤ b_ ∧ b_ ≤ 255) : allocrefused_M b_ n_ = some true := by
  refine Ok.true ?_
  have hwk : Ok (· = true) (works07_M.bind fun r => some r) := Ok.bind (S := (· = true)) ⟨_, works07_eq, rfl⟩ fun y hy => ⟨y, rfl, hy⟩
  have et : b_.tmod 9 = b_ % 9 := Int.tmod_eq_emod_of_nonneg hb.1
  unfold allocrefused_M
  rw [et]
  obtain ⟨gb, hgb⟩ : ∃ gb, gb = 2 + b_ % 9 := ⟨_, rfl⟩
  rw [← hgb]
  have hg : 2 ≤ gb ∧ gb ≤ 10 := by omega
  have hM : May 1 2 gb := by unfold May; omega
  have hw := words_may hM
  have hlen := fmtW_len 1 2 gb
  obtain ⟨img, himg⟩ : ∃ img, img = fmtW 1 2 gb := ⟨_, rfl⟩
  have hV : VI img [] := by rw [himg]; exact VI.nil fmtW_u64
  have hib : ∀ i, i < 64 → mbits img [] 472 i = decide (i < 2) := fun i hi => by rw [himg]; exact fmt_ibits hM hi
  have hbb : ∀ i, i < 512 → mbits img [] 480 i = decide (i = 0) := fun i hi => by rw [himg]; exact fmt_bbits hM hi
  rw [place6 hM, place7 hM]
  rw [← himg] at hlen ⊢
  have hil : (img.length : Int) = 488 + 32 + 8 * gb := by omega
  have hok : VOk img [] := VOk.nil (by omega)
  refine Ok.need (by omega) (Ok.need (by omega) (Ok.need (by omega) (Ok.need (by omega) (Ok.yes ⟨hM, by omega⟩ ?_))))
  simp only [Int.reduceMul, Int.reduceAdd]
  refine Ok.bind (S := (· = _)) ⟨_, atakei_ok hV.1 (by omega) (by omega), rfl⟩ fun x hx => ?_
  have hfull : lst (mbits img [] 472) (2 : Int).toNat = (0, false) := lst_full fun j hj => by rw [hib j (by omega)]; simpa using hj
  have hx' : x = (0, 7, []) := by rw [hx]; unfold takeIF; rw [hfull]; rfl
  subst hx'
  unfold agivei_M
  refine Ok.bind (S := (· = _)) ⟨_, bind_of (agive_ok hV.1 (by omega) (by omega)) rfl, rfl⟩ fun y hy => ?_
  -- what stands behind the inode's giving
  have hcase : ∃ l, (n_ = 1 ∧ y = (0, l) ∧ l.length ≤ 1 ∧ (∀ i, i < 64 → mbits img l 472 i = decide (i < 1)) ∨ ¬ n_ = 1 ∧ y = (1, l) ∧ l = []) ∧ VI img l ∧ (∀ i, i < 512 → mbits img l 480 i = decide (i = 0)) := by
    by_cases h1 : n_ = 1
    · subst h1
      obtain ⟨l', hl', hv', hok', hlen', _, hget, hbit⟩ := mset_in (is_ := false) (at_ := 472) (i_ := 1) (many := 2) hV.1 hok (by omega) (by omega) (by simp)
      refine ⟨l', .inl ⟨rfl, ?_, by simpa using hlen', fun i hi => ?_⟩, ⟨hv', by simp at hlen'; omega⟩, fun i hi => ?_⟩
      · rw [hy]
        unfold giveF
        rw [if_pos (by omega), hib _ (by decide), if_pos (by decide), hl']
      · rw [hbit, hib i hi]
        by_cases e : i = 1
        · subst e; rfl
        · rw [if_neg (by simpa using e)]
          exact decide_eq_decide.2 (by omega)
      · rw [← hbb i hi]
        unfold mbits
        rw [hget, if_neg (by omega)]
    · refine ⟨[], .inr ⟨h1, ?_, rfl⟩, hV, hbb⟩
      rw [hy]
      unfold giveF
      rw [if_neg (by omega)]
  clear hy
  obtain ⟨l, hl, hVl, hbl⟩ := hcase
  have hyl : y.2 = l := by rcases hl with ⟨_, rfl, _⟩ | ⟨_, rfl, _⟩ <;> rfl
  rw [hyl]
  unfold agiveb_M
  refine Ok.bind (S := (· = _)) ⟨_, bind_of (agive_ok hVl.1 (by omega) (by omega)) rfl, rfl⟩ fun z hz => ?_
  have hz' : z = (if 1 ≤ n_ ∧ n_ < gb then 3 else 1, l) := by
    rw [hz]
    unfold giveF
    by_cases h : 1 ≤ n_ ∧ n_ < gb
    · rw [if_pos h, if_pos h, hbl _ (by omega), if_neg (by simp; omega)]
    · rw [if_neg h, if_neg h]
  subst hz'
  clear hz
  refine Ok.bind (S := (· = _)) ⟨_, afree_ok hVl.1 (by omega) (by omega) (by omega) (by omega), rfl⟩ fun f hf => ?_
  have c2 : cnt (mbits img l 480) gb.toNat = 1 := by
    have e : cnt (mbits img l 480) gb.toNat = cnt (fun i => decide (i < 1)) gb.toNat := cnt_congr fun i hi => by rw [hbl i (by omega)]; exact decide_eq_decide.2 (by omega)
    rw [e, cnt_dec]; omega
  have hf2 : f.2 = gb - 1 := by rw [hf]; unfold freeF; simp only; rw [c2]; rfl
  have j2 : Ok (· = true) (allocrefused_J2 b_ n_ (if 1 ≤ n_ ∧ n_ < gb then 3 else 1, l)) := by
    unfold allocrefused_J2
    rw [et, ← hgb, ← himg]
    refine Ok.ite (fun _ => hwk) fun h => ?_
    rcases hl with ⟨h1, _⟩ | ⟨_, _, rfl⟩
    · exact absurd h1 h
    · have hvl := vflat_length img []
      exact Ok.yes rfl (Ok.need (by simp only; omega) (Ok.yes rfl hwk))
  have jend : ∀ (p : Int), (p = 1 ↔ n_ = 1) → (p = 0 ↔ ¬ n_ = 1) → Ok (· = true) (allocrefused_J1 b_ n_ (0, 7, []) y (if 1 ≤ n_ ∧ n_ < gb then 3 else 1, l) f p) := by
    intro p hp1 hp0
    unfold allocrefused_J1
    rw [et, ← hgb]
    dsimp only
    have hf1 : f.1 = p := by
      rw [hf]
      unfold freeF
      simp only
      rcases hl with ⟨h1, _, _, hb1⟩ | ⟨h1, _, rfl⟩
      · have e : cnt (mbits img l 472) (2 : Int).toNat = 1 := by
          rw [cnt_congr (g := fun i => decide (i < 1)) fun i hi => hb1 i (by omega), cnt_dec]
          rfl
        rw [e, hp1.2 h1]; rfl
      · have e : cnt (mbits img [] 472) (2 : Int).toNat = 2 := by
          rw [cnt_congr (g := fun i => decide (i < 2)) fun i hi => hib i (by omega), cnt_dec]
          rfl
        rw [e, hp0.2 h1]; rfl
    refine Ok.yes rfl (Ok.yes rfl (Ok.yes hf1 (Ok.need (by omega) (Ok.yes hf2 ?_))))
    have hll : l.length ≤ 1 := by
      rcases hl with ⟨_, _, h, _⟩ | ⟨_, _, rfl⟩
      · exact h
      · simp
    refine Ok.no (by omega) ?_
    have tail : Ok (· = true) (if n_ > 0 then (if (((if 1 ≤ n_ ∧ n_ < gb then 3 else 1 : Int) = 3) ↔ (n_ < gb)) then (if (if 1 ≤ n_ ∧ n_ < gb then 3 else 1 : Int) = 3 then (allocrefused_J2 b_ n_ (if 1 ≤ n_ ∧ n_ < gb then 3 else 1, l)) else (if (if 1 ≤ n_ ∧ n_ < gb then 3 else 1 : Int) = 1 then (allocrefused_J2 b_ n_ (if 1 ≤ n_ ∧ n_ < gb then 3 else 1, l)) else (some false))) else (some false)) else (if (((if 1 ≤ n_ ∧ n_ < gb then 3 else 1 : Int) = 3) ↔ False) then (if (if 1 ≤ n_ ∧ n_ < gb then 3 else 1 : Int) = 3 then (allocrefused_J2 b_ n_ (if 1 ≤ n_ ∧ n_ < gb then 3 else 1, l)) else (if (if 1 ≤ n_ ∧ n_ < gb then 3 else 1 : Int) = 1 then (allocrefused_J2 b_ n_ (if 1 ≤ n_ ∧ n_ < gb then 3 else 1, l)) else (some false))) else (some false))) := by
      have inner : Ok (· = true) (if (if 1 ≤ n_ ∧ n_ < gb then 3 else 1 : Int) = 3 then (allocrefused_J2 b_ n_ (if 1 ≤ n_ ∧ n_ < gb then 3 else 1, l)) else (if (if 1 ≤ n_ ∧ n_ < gb then 3 else 1 : Int) = 1 then (allocrefused_J2 b_ n_ (if 1 ≤ n_ ∧ n_ < gb then 3 else 1, l)) else (some false))) := by
        refine Ok.ite (fun _ => j2) fun h => Ok.yes ?_ j2
        by_cases q : 1 ≤ n_ ∧ n_ < gb
        · rw [if_pos q] at h; exact absurd rfl h
        · rw [if_neg q]
      refine Ok.ite (fun h => Ok.yes ?_ inner) fun h => Ok.yes ?_ inner
      · split <;> simp <;> omega
      · rw [if_neg (by omega)]; decide
    rcases hl with ⟨h1, rfl, _⟩ | ⟨h1, rfl, _⟩
    · exact Ok.no (by simp) (Ok.yes h1 (Ok.yes rfl tail))
    · exact Ok.yes rfl tail
  refine Ok.ite (fun h => jend 1 ⟨fun _ => h, fun _ => rfl⟩ ⟨fun h2 => absurd h2 (by decide), fun h2 => absurd h h2⟩) fun h => jend 0 ⟨fun h2 => absurd h2 (by decide), fun h2 => absurd h2 h⟩ ⟨fun _ => h, fun _ => rfl⟩
end Go.Proofs.YthimamnblklkbaaDoor
