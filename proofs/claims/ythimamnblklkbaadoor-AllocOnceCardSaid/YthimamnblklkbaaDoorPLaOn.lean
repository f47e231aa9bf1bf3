/- AllocOnce: the plain law. -/
import Derived.Test.YthimamnblklkbaaDoorALaOn
import Derived.Test.YthimamnblklkbaaDoorGG
import Derived.Test.YthimamnblklkbaaDoorGH
import Derived.Test.YthimamnblklkbaaDoorGF
namespace Go.Proofs.YthimamnblklkbaaDoor
open Go Go.RowKit
set_option linter.unusedVariables false

/-- what is had: bits of a list. -/
def hadB (l : List Bool) (j : Nat) : Bool := l.getD j false
theorem hadB_set {l : List Bool} {i : Nat} {b : Bool} (hi : i < l.length) (j : Nat) : hadB (l.set i b) j = if j = i then b else hadB l j := getD_set hi

theorem alloconce_law {i_ b_ : Int} {ss : List TSt7} (hi : 0 ≤ i_ ∧ i_ ≤ 255) (hb : 0 ≤ b_ ∧ b_ ≤ 255) (hs : ∀ t ∈ ss, good_St7 t) : alloconce_M i_ b_ ss = some true := by
  refine Ok.true ?_
  have hwk : Ok (· = true) (works07_M.bind fun r => some r) := Ok.bind (S := (· = true)) ⟨_, works07_eq, rfl⟩ fun y hy => ⟨y, rfl, hy⟩
  have ei : i_.tmod 20 = i_ % 20 := Int.tmod_eq_emod_of_nonneg hi.1
  have eb : b_.tmod 40 = b_ % 40 := Int.tmod_eq_emod_of_nonneg hb.1
  unfold alloconce_M
  rw [ei, eb]
  obtain ⟨gi, hgi⟩ : ∃ gi, gi = 2 + i_ % 20 := ⟨_, rfl⟩
  obtain ⟨gb, hgb⟩ : ∃ gb, gb = 2 + b_ % 40 := ⟨_, rfl⟩
  rw [← hgi, ← hgb]
  have g1 : 2 ≤ gi ∧ gi ≤ 21 := by omega
  have g2 : 2 ≤ gb ∧ gb ≤ 41 := by omega
  have hM : May 1 gi gb := by unfold May; omega
  have hw := words_may hM
  have hfl := fmtW_len 1 gi gb
  refine Ok.ite (fun _ => hwk) fun h60 => Ok.need (by omega) (Ok.need (by omega) (Ok.need (by omega) (Ok.need (by omega) (Ok.name fun r hr => Ok.yes (by omega) (Ok.no (by omega) (Ok.need (by omega) (Ok.need (by omega) ?_)))))))
  have c0 : cnt (fun j => decide (j < 2)) gi.toNat = 2 := by rw [cnt_dec]; omega
  have c1 : cnt (fun j => decide (j = 0)) gb.toNat = 1 := by
    have e : cnt (fun j => decide (j = 0)) gb.toNat = cnt (fun i => decide (i < 1)) gb.toNat := cnt_congr fun i hi => decide_eq_decide.2 (by omega)
    rw [e, cnt_dec]; omega
  have hrep : ∀ j, hadB (List.replicate 64 false) j = false := fun j => by unfold hadB; rw [List.getD_eq_getElem?_getD, List.getElem?_replicate]; split <;> rfl
  let I : List Int × Nat × List Bool × List Bool × Int × Int × Int → Prop := fun s => s.2.1 = s.1.length ∧ s.2.2.1.length = 64 ∧ s.2.2.2.1.length = 64 ∧ 0 ≤ s.2.2.2.2.2.2 ∧ s.2.2.2.2.2.2 ≤ (ss.length : Int) ∧
    (∀ j, hadB s.2.2.1 j = true → 2 ≤ j ∧ (j : Int) < gi) ∧ (∀ j, hadB s.2.2.2.1 j = true → 1 ≤ j ∧ (j : Int) < gb) ∧
    Gd gi gb s.1 (fun j => decide (j < 2) || hadB s.2.2.1 j) (fun j => decide (j = 0) || hadB s.2.2.2.1 j) ∧
    s.2.2.2.2.1 = gi - (cnt (fun j => decide (j < 2) || hadB s.2.2.1 j) gi.toNat : Nat) ∧ s.2.2.2.2.2.1 = gb - (cnt (fun j => decide (j = 0) || hadB s.2.2.2.1 j) gb.toNat : Nat)
  refine Ok.iter I (fun s => ((ss.length : Int) - s.2.2.2.2.2.2).toNat) ?_ _ _ ⟨rfl, by simp, by simp, by simp, by simp, fun j hj => (by simp only [hrep] at hj; cases hj), fun j hj => (by simp only [hrep] at hj; cases hj),
    (Gd.fmt hM).congr (fun j hj => by simp only [hrep, Bool.or_false]) (fun j hj => by simp only [hrep, Bool.or_false]), by simp only [hrep, Bool.or_false, c0]; rfl, by simp only [hrep, Bool.or_false, c1]; rfl⟩ (fuel_lt (by simp only; omega))
  rintro k ⟨q, n, hI, hB, is, bs, p⟩ ⟨h1, h2, h3, h4, h5, h6, h7, h8, h9, h10⟩ ih
  simp only at h1 h2 h3 h4 h5 h6 h7 h8 h9 h10 ih
  obtain ⟨ho, hv, hl, hl2⟩ := h8.ok
  have hM_ := may_out hM
  have hcI := cnt_le (fun j => decide (j < 2) || hadB hI j) gi.toNat
  have hcB := cnt_le (fun j => decide (j = 0) || hadB hB j) gb.toNat
  unfold alloconce_B0
  simp only
  rw [ei, eb, ← hgi, ← hgb]
  refine Ok.ite (fun hp => ?_) fun _ => hwk
  refine Ok.need h1 (Ok.need (by omega) (Ok.need (by omega) (Ok.yes ⟨hM, by omega⟩ (Ok.need ⟨h4, hp⟩ ?_))))
  rw [place6 hM, place7 hM]
  simp only [Int.reduceMul, Int.reduceAdd]
  have hpn : p.toNat < ss.length := by omega
  have hmem : ss.getD p.toNat dSt7 ∈ ss := by simp [List.getD, hpn]
  have hx := hs _ hmem
  unfold good_St7 at hx
  -- the next round
  have next : ∀ (q' : List Int) (hI' hB' : List Bool) (is' bs' : Int), hI'.length = 64 → hB'.length = 64 → (∀ j, hadB hI' j = true → 2 ≤ j ∧ (j : Int) < gi) → (∀ j, hadB hB' j = true → 1 ≤ j ∧ (j : Int) < gb) →
      Gd gi gb q' (fun j => decide (j < 2) || hadB hI' j) (fun j => decide (j = 0) || hadB hB' j) → is' = gi - (cnt (fun j => decide (j < 2) || hadB hI' j) gi.toNat : Nat) → bs' = gb - (cnt (fun j => decide (j = 0) || hadB hB' j) gb.toNat : Nat) →
      ∀ m : Nat, m = q'.length → Ok (· = true) (need (-9223372036854775808 ≤ (p + 1) ∧ (p + 1) ≤ 9223372036854775807) <| k (q', m, hI', hB', is', bs', (p + 1))) := by
    intro q' hI' hB' is' bs' a1 a2 a3 a4 a5 a6 a7 m hm
    exact Ok.need (by omega) (ih _ ⟨hm, a1, a2, by simp only; omega, by simp only; omega, a3, a4, a5, a6, a7⟩ (by simp only; omega))
  -- behind the call
  have j2 : ∀ (l : List (Int × Int)) (hI' hB' : List Bool) (is' bs' m e : Int), VOk q l → VR q l → l.length ≤ 9 → hI'.length = 64 → hB'.length = 64 → (∀ j, hadB hI' j = true → 2 ≤ j ∧ (j : Int) < gi) → (∀ j, hadB hB' j = true → 1 ≤ j ∧ (j : Int) < gb) →
      Gd gi gb (vflat q l) (fun j => decide (j < 2) || hadB hI' j) (fun j => decide (j = 0) || hadB hB' j) → is' = gi - (cnt (fun j => decide (j < 2) || hadB hI' j) gi.toNat : Nat) → bs' = gb - (cnt (fun j => decide (j = 0) || hadB hB' j) gb.toNat : Nat) →
      ((ss.getD p.toNat dSt7).c0.tmod 4 = 1 → e = 0 → (0 ≤ m ∧ m < gb) ∧ ∀ z, 488 + 16 * gi + 8 * m ≤ z ∧ z < 488 + 16 * gi + 8 * m + 8 → vget q l z = 0) → Ok (· = true) (alloconce_J2 i_ b_ ss k q p hI' hB' is' bs' l m e) := by
    intro l hI' hB' is' bs' m e o1 o2 o3 a1 a2 a3 a4 a5 a6 a7 a8
    have hvl := vflat_length q l
    unfold alloconce_J2
    rw [ei, eb, ← hgi, ← hgb, place6 hM, place7 hM]
    simp only [Int.reduceMul, Int.reduceAdd]
    refine Ok.bind (S := (· = _)) ⟨_, (afree_ok o2 (by omega) (by omega) (by omega) (by omega)).trans (congrArg some (h8.free o1 a5)), rfl⟩ fun x hx => ?_
    subst hx
    refine Ok.yes a6.symm (Ok.yes a7.symm (Ok.no (by omega) (Ok.need ⟨h4, hp⟩ ?_)))
    have jno : Ok (· = true) (alloconce_J3 i_ b_ k q p hI' hB' is' bs' l m false) := by
      unfold alloconce_J3
      exact Ok.no (by decide) (next _ _ _ _ _ a1 a2 a3 a4 a5 a6 a7 _ rfl)
    refine Ok.ite (fun h1' => ?_) fun _ => jno
    by_cases he : e = 0
    · obtain ⟨hm, hz⟩ := a8 h1' he
      rw [decide_eq_true he]
      unfold alloconce_J3
      rw [ei, eb, ← hgi, ← hgb, place9_in hM hm]
      refine Ok.yes rfl (Ok.name fun at_ hat => ?_)
      refine Ok.iter (fun s : List Int × Int => 0 ≤ s.2 ∧ s.2 ≤ 8 ∧ s.1.length = (vflat q l).length ∧ (∀ x ∈ s.1, U64 x) ∧ ∀ z : Nat, ¬ (at_ ≤ (z : Int) ∧ (z : Int) < at_ + s.2) → s.1.getD z 0 = (vflat q l).getD z 0) (fun s => (8 - s.2).toNat) ?_ _ _ ⟨by simp, by simp, rfl, a5.u64, fun _ _ => rfl⟩ (fuel_lt (by simp only; omega))
      rintro k2 ⟨w, t⟩ ⟨t1, t2, t3, t4, t5⟩ ih2
      simp only at t1 t2 t3 t4 t5 ih2
      unfold alloconce_B1
      simp only
      refine Ok.ite (fun ht => ?_) fun ht => ?_
      · have hzero : w.getD (at_ + t).toNat 0 = 0 := by
          rw [t5 _ (by omega), vflat_get o1 (by omega)]
          exact hz _ (by omega)
        refine Ok.no (by omega) (Ok.need (by omega) (Ok.no (by omega) (Ok.need (by omega) (Ok.need (by omega) (Ok.need (by omega) (Ok.yes hzero (Ok.need (by omega) (Ok.need (by omega) (Ok.need (by omega) (Ok.need (by omega) (ih2 _ ⟨by simp only; omega, by simp only; omega, by simpa using t3, fun x hx => ?_, fun z hz' => ?_⟩ (by simp only; omega)))))))))))) 
        · rcases List.mem_or_eq_of_mem_set hx with h | rfl
          · exact t4 x h
          · unfold U64; omega
        · simp only at hz' ⊢
          rw [getD_set (by omega), if_neg (by omega)]
          exact t5 z (by omega)
      · refine next _ _ _ _ _ a1 a2 a3 a4 ?_ a6 a7 _ t3.symm
        have hvw : ∀ z : Int, 0 ≤ z ∧ z < 488 → vget w [] z = vget (vflat q l) [] z := by
          intro z hz'
          obtain ⟨z', rfl⟩ := Int.eq_ofNat_of_zero_le hz'.1
          rw [vget_nil (by omega), vget_nil (by omega)]
          exact t5 z' (by omega)
        refine ⟨hM, by omega, t4, fun j hj => ?_, fun j hj => ?_⟩
        · rw [← a5.ib j hj]
          unfold mbits
          rw [hvw _ (by omega)]
        · rw [← a5.bb j hj]
          unfold mbits
          rw [hvw _ (by omega)]
    · rw [decide_eq_false he]; exact jno
  have hsI : ∀ (m : Nat) (b : Bool), m < 64 → ∀ j, (decide (j < 2) || hadB (hI.set m b) j) = if j = m then (decide (j < 2) || b) else (decide (j < 2) || hadB hI j) := by
    intro m b hm j
    rw [hadB_set (by omega)]
    split <;> rfl
  have hsB : ∀ (m : Nat) (b : Bool), m < 64 → ∀ j, (decide (j = 0) || hadB (hB.set m b) j) = if j = m then (decide (j = 0) || b) else (decide (j = 0) || hadB hB j) := by
    intro m b hm j
    rw [hadB_set (by omega)]
    split <;> rfl
  have htm : (ss.getD p.toNat dSt7).c0.tmod 4 = (ss.getD p.toNat dSt7).c0 % 4 := Int.tmod_eq_emod_of_nonneg (by omega)
  have hmx : ∀ z : Int, 0 ≤ mx z 0 := fun z => by unfold mx; split <;> omega
  refine Ok.ite (fun d0 => ?_) fun d0 => Ok.ite (fun d1 => ?_) fun d1 => Ok.ite (fun d2 => Ok.need ⟨h4, hp⟩ ?_) fun d2 => Ok.need ⟨h4, hp⟩ ?_
  · -- an inode is taken
    refine Ok.bind (S := (· = _)) ⟨_, atakei_ok hv (by omega) (by omega), rfl⟩ fun x hx => ?_
    rcases h8.takeI with ⟨m, l, t1, t2, t3, t4, t5, t6, t7, t8⟩ | ⟨t1, t4⟩
    · rw [t4] at hx
      subst hx
      rw [Bool.or_eq_false_iff] at t2
      have hm2 : 2 ≤ m := by simpa using t2.1
      have hlt : cnt (fun j => decide (j < 2) || hadB hI j) gi.toNat < gi.toNat := by
        refine Nat.lt_of_le_of_ne hcI fun e => ?_
        have := cnt_all e m t1
        rw [t2.2, decide_eq_false (by omega)] at this
        cases this
      refine Ok.yes ⟨fun q => absurd q (by simp), fun q => by exfalso; omega⟩ (Ok.yes rfl (Ok.no (by simp only; omega) (Ok.no (by simp only; omega) (Ok.need (by simp only; omega) (Ok.need h2 ?_)))))
      refine Ok.no (by rw [show ((m : Int), (0 : Int), l).1.toNat = m from Int.toNat_natCast m]; unfold hadB at t2; rw [t2.2]; decide) ?_
      unfold alloconce_J5
      simp only [Int.toNat_natCast]
      have hset := cnt_set (f := fun j => decide (j < 2) || hadB hI j) (j := m) (b := true) (n := gi.toNat) t1
      have hfe : (fun j => decide (j < 2) || hadB (hI.set m true) j) = fun j => if j = m then true else decide (j < 2) || hadB hI j := by
        funext j; rw [hsI m true (by omega) j, Bool.or_true]
      rw [← hfe, t2.2, decide_eq_false (by omega)] at hset
      refine Ok.yes trivial (Ok.need (by omega) (Ok.need h2 (Ok.need (by omega) (j2 l _ _ _ _ _ _ t5 t6 t7 (by simpa using h2) h3 (fun j hj => ?_) h7 (t8.congr (fun j hj => by rw [hsI m true (by omega) j, Bool.or_true]) fun _ _ => rfl) (by simp at hset; omega) h10 (fun q => absurd q (by omega))))))
      rw [hadB_set (by omega)] at hj
      by_cases q : j = m
      · omega
      · rw [if_neg q] at hj; exact h6 j hj
    · rw [t4] at hx
      subst hx
      have hfull := cnt_full t1
      refine Ok.yes ⟨fun _ => by omega, fun _ => rfl⟩ (Ok.no (by decide) ?_)
      unfold alloconce_J5
      exact Ok.no (by decide) (j2 [] _ _ _ _ _ _ ho hv (by simp) h2 h3 h6 h7 (h8.flat ho hv h8.ib h8.bb) h9 h10 (fun q => absurd q (by omega)))
  · -- a block is taken
    refine Ok.bind (S := (· = _)) ⟨_, atakeb_ok hv (by omega) (by omega), rfl⟩ fun x hx => ?_
    rcases h8.takeB with ⟨m, l, t1, t2, t3, t4, t5, t6, t7, t8, _, t9⟩ | ⟨t1, t4⟩
    · rw [t4] at hx
      subst hx
      rw [Bool.or_eq_false_iff] at t2
      have hm2 : 1 ≤ m := by have := t2.1; simp at this; omega
      have hlt : cnt (fun j => decide (j = 0) || hadB hB j) gb.toNat < gb.toNat := by
        refine Nat.lt_of_le_of_ne hcB fun e => ?_
        have := cnt_all e m t1
        rw [t2.2, decide_eq_false (by omega)] at this
        cases this
      refine Ok.yes ⟨fun q => absurd q (by simp), fun q => by exfalso; omega⟩ (Ok.yes rfl (Ok.no (by simp only; omega) (Ok.no (by simp only; omega) (Ok.need (by simp only; omega) (Ok.need h3 ?_)))))
      refine Ok.no (by rw [show ((m : Int), (0 : Int), l).1.toNat = m from Int.toNat_natCast m]; unfold hadB at t2; rw [t2.2]; decide) ?_
      unfold aused_M
      refine Ok.bind (S := (· = _)) ⟨_, bind_of (mget_ok t6 (by omega) (by omega)) rfl, rfl⟩ fun u hu => ?_
      have hu' : u = true := by
        rw [hu]
        simp only [Int.toNat_natCast]
        rw [decide_eq_true (by omega), Bool.true_and, ← mbits_flat t5]
        have := t9.bb m t1
        rw [this, if_pos rfl]
      refine Ok.yes hu' ?_
      unfold alloconce_J6
      simp only [Int.toNat_natCast]
      have hset := cnt_set (f := fun j => decide (j = 0) || hadB hB j) (j := m) (b := true) (n := gb.toNat) t1
      have hfe : (fun j => decide (j = 0) || hadB (hB.set m true) j) = fun j => if j = m then true else decide (j = 0) || hadB hB j := by
        funext j; rw [hsB m true (by omega) j, Bool.or_true]
      rw [← hfe, t2.2, decide_eq_false (by omega)] at hset
      refine Ok.yes trivial (Ok.need (by omega) (Ok.need h3 (Ok.need (by omega) (j2 l _ _ _ _ _ _ t5 t6 t7 h2 (by simpa using h3) h6 (fun j hj => ?_) (t9.congr (fun _ _ => rfl) fun j hj => by rw [hsB m true (by omega) j, Bool.or_true]) h9 (by simp at hset; omega) (fun _ _ => ⟨by omega, t8⟩)))))
      rw [hadB_set (by omega)] at hj
      by_cases q : j = m
      · omega
      · rw [if_neg q] at hj; exact h7 j hj
    · rw [t4] at hx
      subst hx
      have hfull := cnt_full t1
      refine Ok.yes ⟨fun _ => by omega, fun _ => rfl⟩ (Ok.no (by decide) ?_)
      unfold alloconce_J6
      exact Ok.no (by decide) (j2 [] _ _ _ _ _ _ ho hv (by simp) h2 h3 h6 h7 (h8.flat ho hv h8.ib h8.bb) h9 h10 (fun _ q => absurd q (by decide)))
  · -- an inode is given back
    have hm := hmx (ss.getD p.toNat dSt7).c1
    rw [Int.tmod_eq_emod_of_nonneg hm]
    refine Ok.need (by omega) (Ok.name fun m hmm => ?_)
    have hm2 : 2 ≤ m ∧ m < 64 := by omega
    obtain ⟨e, l, t1, t2, t3, t4, t5, t6⟩ := h8.giveI (n := m)
    unfold agivei_M
    refine Ok.bind (S := (· = _)) ⟨_, bind_of (agive_ok hv (by omega) (by omega)) (congrArg some t1), rfl⟩ fun x hx => ?_
    have hx' : x = (e, l) := hx
    subst hx'
    have hz : (e = 0) ↔ hadB hI m.toNat = true := by
      rw [t5, decide_eq_false (by omega), Bool.false_or]
      exact ⟨fun q => q.2, fun q => ⟨by have := h6 _ q; omega, q⟩⟩
    refine Ok.need (by omega) (Ok.need h2 (Ok.yes hz (Ok.need (by omega) (Ok.need h2 ?_))))
    refine Ok.ite (fun hf => Ok.need (by omega) (Ok.need h2 ?_)) fun hf => ?_
    · have he := hz.2 hf
      have hmg := h6 _ hf
      have hset := cnt_set (f := fun j => decide (j < 2) || hadB hI j) (j := m.toNat) (b := false) (n := gi.toNat) (by omega)
      have hfe : (fun j => decide (j < 2) || hadB (hI.set m.toNat false) j) = fun j => if j = m.toNat then false else decide (j < 2) || hadB hI j := by
        funext j; rw [hsI m.toNat false (by omega) j]
        by_cases q : j = m.toNat
        · rw [if_pos q, if_pos q, decide_eq_false (by omega)]; rfl
        · rw [if_neg q, if_neg q]
      rw [← hfe, show hadB hI m.toNat = true from hf, Bool.or_true] at hset
      refine Ok.need (by simp at hset; omega) (j2 l _ _ _ _ _ _ t2 t3 (by omega) (by simpa using h2) h3 (fun j hj => ?_) h7 (t6.congr (fun j hj => ?_) fun _ _ => rfl) (by simp at hset; omega) h10 (fun q => absurd q (by omega)))
      · rw [hadB_set (by omega)] at hj
        by_cases q : j = m.toNat
        · rw [if_pos q] at hj; cases hj
        · rw [if_neg q] at hj; exact h6 j hj
      · have := congrFun hfe j
        rw [this]
        by_cases q : j = m.toNat
        · rw [if_pos ⟨he, q⟩, if_pos q]
        · rw [if_neg (fun z => q z.2), if_neg q]
    · have he : ¬ e = 0 := fun q => hf (hz.1 q)
      exact j2 l _ _ _ _ _ _ t2 t3 (by omega) h2 h3 h6 h7 (t6.congr (fun j hj => by rw [if_neg (fun z => he z.1)]) fun _ _ => rfl) h9 h10 (fun q => absurd q (by omega))
  · -- a block is given back
    have hm := hmx (ss.getD p.toNat dSt7).c1
    rw [Int.tmod_eq_emod_of_nonneg hm]
    refine Ok.need (by omega) (Ok.name fun m hmm => ?_)
    have hm2 : 1 ≤ m ∧ m < 64 := by omega
    obtain ⟨e, l, t1, t2, t3, t4, t5, _, _, t6⟩ := h8.giveB (n := m)
    unfold agiveb_M
    refine Ok.bind (S := (· = _)) ⟨_, bind_of (agive_ok hv (by omega) (by omega)) (congrArg some t1), rfl⟩ fun x hx => ?_
    have hx' : x = (e, l) := hx
    subst hx'
    have hz : (e = 0) ↔ hadB hB m.toNat = true := by
      rw [t5, decide_eq_false (by omega), Bool.false_or]
      exact ⟨fun q => q.2, fun q => ⟨by have := h7 _ q; omega, q⟩⟩
    refine Ok.need (by omega) (Ok.need h3 (Ok.yes hz (Ok.need (by omega) (Ok.need h3 ?_))))
    refine Ok.ite (fun hf => Ok.need (by omega) (Ok.need h3 ?_)) fun hf => ?_
    · have he := hz.2 hf
      have hmg := h7 _ hf
      have hset := cnt_set (f := fun j => decide (j = 0) || hadB hB j) (j := m.toNat) (b := false) (n := gb.toNat) (by omega)
      have hfe : (fun j => decide (j = 0) || hadB (hB.set m.toNat false) j) = fun j => if j = m.toNat then false else decide (j = 0) || hadB hB j := by
        funext j; rw [hsB m.toNat false (by omega) j]
        by_cases q : j = m.toNat
        · rw [if_pos q, if_pos q, decide_eq_false (by omega)]; rfl
        · rw [if_neg q, if_neg q]
      rw [← hfe, show hadB hB m.toNat = true from hf, Bool.or_true] at hset
      refine Ok.need (by simp at hset; omega) (j2 l _ _ _ _ _ _ t2 t3 (by omega) h2 (by simpa using h3) h6 (fun j hj => ?_) (t6.congr (fun _ _ => rfl) fun j hj => ?_) h9 (by simp at hset; omega) (fun q => absurd q (by omega)))
      · rw [hadB_set (by omega)] at hj
        by_cases q : j = m.toNat
        · rw [if_pos q] at hj; cases hj
        · rw [if_neg q] at hj; exact h7 j hj
      · have := congrFun hfe j
        rw [this]
        by_cases q : j = m.toNat
        · rw [if_pos ⟨he, q⟩, if_pos q]
        · rw [if_neg (fun z => q z.2), if_neg q]
    · have he : ¬ e = 0 := fun q => hf (hz.1 q)
      exact j2 l _ _ _ _ _ _ t2 t3 (by omega) h2 h3 h6 h7 (t6.congr (fun _ _ => rfl) fun j hj => by rw [if_neg (fun z => he z.1)]) h9 h10 (fun q => absurd q (by omega))
end Go.Proofs.YthimamnblklkbaaDoor
