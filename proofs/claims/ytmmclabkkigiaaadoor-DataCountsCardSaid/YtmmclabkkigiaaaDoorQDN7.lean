/- Texts, one behind the other: PDb, PDc, PDd, PDe, PDf, PDg, PDh, A4F, K14, A4G, A4N, A4W, P4w, PDi, PDj, K7, Lo, LoS, Ro14, ClA, ClB, ClC, ClD, ClE. -/
import Derived.Test.YtmmclabkkigiaaaDoorRows
import Derived.Test.YtmmclabkkigiaaaDoorCards
import Derived.OpenShut
import Derived.Test.YtmmclabkkigiaaaDoorChecked
import Derived.Test.YtmmclabkkigiaaaDoorQDN6
set_option linter.unusedVariables false
set_option linter.unusedSimpArgs false
namespace Go.Proofs.YtmmclabkkigiaaaDoor
open Go Go.RowKit
set_option linter.unusedVariables false
set_option linter.unusedSimpArgs false

def Sub (l : List (Int × Int)) (K : List Int) : Prop := ∀ p ∈ l, p.1 ∈ K
theorem nodup_le : ∀ {xs ys : List Int}, xs.Nodup → (∀ x ∈ xs, x ∈ ys) → xs.length ≤ ys.length
  | [], _, _, _ => by simp
  | x :: xs, ys, h, hs => by
    have hx := hs x (by simp)
    have hn := List.nodup_cons.1 h
    have ih := nodup_le (ys := ys.erase x) hn.2 fun y hy => (List.mem_erase_of_ne (fun e => hn.1 (by rw [← e]; exact hy))).2 (hs y (by simp [hy]))
    rw [List.length_erase_of_mem hx] at ih
    have := List.length_pos_of_mem hx
    simp only [List.length_cons]
    omega
theorem keys_le {img : List Int} {l : List (Int × Int)} {K : List Int} (h : VOk img l) (hs : Sub l K) : l.length ≤ K.length := by
  have h1 : (l.map (·.1)).Nodup := h.keys
  have := nodup_le h1 (ys := K) fun x hx => by
    obtain ⟨p, hp, rfl⟩ := List.mem_map.1 hx
    exact hs p hp
  rw [List.length_map] at this
  exact this
theorem vset_keys {l : List (Int × Int)} {a x : Int} {K : List Int} (hs : Sub l K) (ha : a ∈ K) : Sub (vset l a x) K := by
  intro p hp
  unfold vset at hp
  split at hp
  · obtain ⟨q, hq, e⟩ := List.mem_map.1 hp
    split at e
    · rw [← e]; exact ha
    · rw [← e]; exact hs q hq
  · rcases List.mem_append.1 hp with hp | hp
    · exact hs p hp
    · rw [List.mem_singleton] at hp
      rw [hp]; exact ha
theorem Sub.mono {l : List (Int × Int)} {K K' : List Int} (hs : Sub l K) (h : ∀ x ∈ K, x ∈ K') : Sub l K' := fun p hp => h _ (hs p hp)
section
variable {gi gb : Int} {img : List Int} {l : List (Int × Int)} {K : List Int}
theorem Dk.writeK (h : Dk gi gb img l) (hs : Sub l K) (hK : K.length ≤ 95) {a x : Int} (ha : 0 ≤ a ∧ a < (img.length : Int)) (haK : a ∈ K) (hx : U64 x) :
    ∃ m, vwrite img l a x = (0, m) ∧ Dk gi gb img m ∧ Sub m K ∧ ∀ z, vget img m z = if z = a then x else vget img l z := by
  have hlen := keys_le h.ok hs
  obtain ⟨m, e1, e2, e3, e4⟩ := h.write ha hx (show l.length < 96 by omega)
  refine ⟨m, e1, e2, ?_, e4⟩
  unfold vwrite at e1
  rw [if_neg (by omega)] at e1
  split at e1
  · rw [← (Prod.mk.inj e1).2]; exact hs
  · rw [vput_in ha (by omega)] at e1
    rw [← (Prod.mk.inj e1).2]; exact vset_keys hs haK
theorem bt_eq {m : List (Int × Int)} {B : Int} {j : Nat} (h : vget img m (B + ((j / 8 : Nat) : Int)) = vget img l (B + ((j / 8 : Nat) : Int))) : bt img m B j = bt img l B j := by
  unfold bt
  rw [h]
structure PutR (gi gb : Int) (img : List Int) (l : List (Int × Int)) (K : List Int) (B : Int) (f : Nat) (bs : List Int) (m : List (Int × Int)) : Prop where
  dk : Dk gi gb img m
  sub : Sub m K
  out : ∀ z, ¬ (B ≤ z ∧ z < B + 8) → vget img m z = vget img l z
  bytes : ∀ j, j < 64 → bt img m B j = if f ≤ j ∧ j < f + bs.length then bs.getD (j - f) 0 else bt img l B j
set_option maxRecDepth 20000 in
theorem dput_ok (h : Dk gi gb img l) (hs : Sub l K) (hK : K.length ≤ 95) {B : Int} (hB : 0 ≤ B ∧ B + 8 ≤ (img.length : Int)) (hBK : ∀ z, B ≤ z ∧ z < B + 8 → z ∈ K) {f : Nat} {bs : List Int} (hf : f + bs.length ≤ 64) (hbs : ∀ j, 0 ≤ bs.getD j 0 ∧ bs.getD j 0 ≤ 255) :
    ∃ m, dput_M img l B (f : Int) bs = some (0, m) ∧ PutR gi gb img l K B f bs m := by
  have hlen := h.len
  have hg := h.g
  suffices H : Ok (fun r : Int × List (Int × Int) => r.1 = 0 ∧ PutR gi gb img l K B f bs r.2) (dput_M img l B (f : Int) bs) by
    obtain ⟨⟨e, m⟩, e1, e2, e3⟩ := H
    simp only at e2 e3
    subst e2
    exact ⟨m, e1, e3⟩
  unfold dput_M
  rw [show ((f : Nat) : Int).tdiv 8 = ((f / 8 : Nat) : Int) by rw [Int.tdiv_eq_ediv_of_nonneg (by omega)]; omega]
  refine Ok.need (by omega) ?_
  refine Ok.iter (fun s : List (Int × Int) × Int => (((f / 8 : Nat) : Int) ≤ s.2 ∧ s.2 ≤ 8) ∧ Dk gi gb img s.1 ∧ Sub s.1 K ∧ (∀ z, ¬ (B ≤ z ∧ z < B + 8) → vget img s.1 z = vget img l z) ∧ ∀ j : Nat, j < 64 → bt img s.1 B j = if (f ≤ j ∧ j < f + bs.length) ∧ (j : Int) < 8 * s.2 then bs.getD (j - f) 0 else bt img l B j)
    (fun s => (9 - s.2).toNat) ?_ _ _ ⟨by simp only; omega, h, hs, fun _ _ => rfl, fun j hj => by rw [if_neg (by simp only; omega)]⟩ (fuel_lt (by simp only; omega))
  rintro k ⟨l5, p⟩ ⟨h1, h2, h3, h4, h5⟩ ih
  simp only at h1 h2 h3 h4 h5 ih
  obtain ⟨pn, rfl⟩ := Int.eq_ofNat_of_zero_le (show 0 ≤ p by omega)
  unfold dput_B0
  simp only
  refine Ok.need (by omega) (Ok.need (by omega) (Ok.ite (fun hp => Ok.need (by omega) ?_) (fun hp => ?_)))
  rotate_left
  · refine Ok.some ⟨rfl, h2, h3, h4, fun j hj => ?_⟩
    rw [h5 j hj]
    by_cases e : f ≤ j ∧ j < f + bs.length
    · rw [if_pos e, if_pos ⟨e, by omega⟩]
    · rw [if_neg e, if_neg (fun q => e q.1)]
  -- behind the rounds over a word's bytes
  have J2 : ∀ w : Int, U64 w → (∀ i : Nat, i < 8 → byt w i = if f ≤ 8 * pn + i ∧ 8 * pn + i < f + bs.length then bs.getD (8 * pn + i - f) 0 else byt (vget img l5 (B + (pn : Int))) i) → Ok (fun r : Int × List (Int × Int) => r.1 = 0 ∧ PutR gi gb img l K B f bs r.2) (dput_J2 img B k l5 (pn : Int) w) := by
    intro w hw hwb
    obtain ⟨m, e1, e2, e3, e4⟩ := h2.writeK h3 hK (a := B + (pn : Int)) (x := w) (by omega) (hBK _ (by omega)) hw
    unfold dput_J2
    refine Ok.need (by omega) ?_
    rw [e1]
    refine Ok.name fun r hr => Ok.yes hr (Ok.need (by omega) (ih (m, (pn : Int) + 1) ⟨by simp only; omega, e2, e3, fun z hz => ?_, fun j hj => ?_⟩ (by simp only; omega)))
    · simp only
      rw [e4, if_neg (by omega)]
      exact h4 z hz
    · simp only
      by_cases e : j / 8 = pn
      · have eb : bt img m B j = byt w (j % 8) := by
          unfold bt
          rw [e, e4, if_pos rfl]
        have eb5 : bt img l5 B j = byt (vget img l5 (B + (pn : Int))) (j % 8) := by
          unfold bt
          rw [e]
        have h5j := h5 j hj
        rw [if_neg (by omega)] at h5j
        rw [eb, hwb (j % 8) (by omega), ← eb5, h5j, show 8 * pn + j % 8 = j by omega]
        by_cases q : f ≤ j ∧ j < f + bs.length
        · rw [if_pos q, if_pos ⟨q, by omega⟩]
        · rw [if_neg q, if_neg fun x => q x.1]
      · rw [bt_eq (l := l5) (by rw [e4, if_neg (by omega)]), h5 j hj]
        by_cases q : (f ≤ j ∧ j < f + bs.length) ∧ (j : Int) < 8 * ((pn : Nat) : Int)
        · rw [if_pos q, if_pos (by omega)]
        · rw [if_neg q, if_neg (by omega)]
  refine Ok.iter (fun s : Int × Int => (0 ≤ s.2 ∧ s.2 ≤ 8) ∧ U64 s.1 ∧ ∀ i : Nat, i < 8 → byt s.1 i = if (f ≤ 8 * pn + i ∧ 8 * pn + i < f + bs.length) ∧ (i : Int) < s.2 then bs.getD (8 * pn + i - f) 0 else byt (vget img l5 (B + (pn : Int))) i)
    (fun s => (9 - s.2).toNat) ?_ _ _ ⟨by simp, h2.vr _, fun i hi => by rw [if_neg (by simp only; omega)]⟩ (fuel_lt (by simp only; omega))
  rintro k2 ⟨w, q⟩ ⟨q1, q2, q3⟩ ih2
  simp only at q1 q2 q3 ih2
  obtain ⟨qn, rfl⟩ := Int.eq_ofNat_of_zero_le q1.1
  unfold dput_B1
  simp only
  refine Ok.ite (fun hq => ?_) (fun hq => J2 w q2 fun i hi => ?_)
  rotate_left
  · rw [q3 i hi]
    by_cases e : f ≤ 8 * pn + i ∧ 8 * pn + i < f + bs.length
    · rw [if_pos e, if_pos ⟨e, by omega⟩]
    · rw [if_neg e, if_neg fun x => e x.1]
  have skipJ : ¬ (f ≤ 8 * pn + qn ∧ 8 * pn + qn < f + bs.length) → Ok (fun r : Int × List (Int × Int) => r.1 = 0 ∧ PutR gi gb img l K B f bs r.2) (dput_J4 (f : Int) bs (pn : Int) k2 w (qn : Int) false) := by
    intro hno
    unfold dput_J4
    refine Ok.no (by decide) (Ok.need (by omega) (ih2 _ ⟨by simp only; omega, q2, fun i hi => ?_⟩ (by simp only; omega)))
    simp only
    rw [q3 i hi]
    by_cases e : (f ≤ 8 * pn + i ∧ 8 * pn + i < f + bs.length) ∧ (i : Int) < (qn : Int)
    · rw [if_pos e, if_pos (by omega)]
    · rw [if_neg e, if_neg (by
        intro x
        by_cases ei : i = qn
        · subst ei; exact hno x.1
        · omega)]
  refine Ok.need (by omega) (Ok.need (by omega) (Ok.need (by omega) (Ok.ite (fun hge => ?_) (fun hge => skipJ (by omega)))))
  by_cases hin : (((pn : Int) * 8) + (qn : Int)) - (f : Int) < (bs.length : Int)
  rotate_left
  · rw [decide_eq_false hin]
    exact skipJ (by omega)
  rw [decide_eq_true hin]
  unfold dput_J4
  have hb := hbs (((((pn : Int) * 8) + (qn : Int)) - (f : Int)).toNat)
  obtain ⟨w1, w2⟩ := byt_put (w := w) (j := qn) q2 hb (by omega)
  refine Ok.yes (by trivial) (Ok.need (by omega) (Ok.need (by omega) (Ok.need (by omega) (Ok.need (by omega) (Ok.need (by omega) (Ok.need (by omega) (Ok.need (by omega) (ih2 _ ⟨by simp only; omega, w1, fun i hi => ?_⟩ (by simp only; omega)))))))))
  simp only
  rw [w2 i hi]
  by_cases e : i = qn
  · subst e
    rw [if_pos rfl, if_pos (by omega)]
    congr 1
    omega
  · rw [if_neg e, q3 i hi]
    by_cases e2 : (f ≤ 8 * pn + i ∧ 8 * pn + i < f + bs.length) ∧ (i : Int) < (qn : Int)
    · rw [if_pos e2, if_pos (by omega)]
    · rw [if_neg e2, if_neg (by omega)]
end
end Go.Proofs.YtmmclabkkigiaaaDoor

namespace Go.Proofs.YtmmclabkkigiaaaDoor
open Go Go.RowKit
set_option linter.unusedVariables false
set_option linter.unusedSimpArgs false

theorem clear_keys {img : List Int} {K : List Int} : ∀ {ns : List Int} {l : List (Int × Int)}, Sub l K → (∀ n ∈ ns, n ∈ K) → Sub (clearF img l ns).2 K
  | [], l, hs, _ => hs
  | n :: ns, l, hs, h => by
    have hv : Sub (vput img l n 0).2 K := by
      unfold vput
      split
      · split
        · exact vset_keys hs (h n (by simp))
        · split
          · exact hs
          · exact vset_keys hs (h n (by simp))
      · exact hs
    unfold clearF
    split
    · exact clear_keys hv fun m hm => h m (by simp [hm])
    · exact hv
section
variable {gi gb : Int} {img : List Int} {l : List (Int × Int)} {K : List Int}
theorem Dk.take_keys (h : Dk gi gb img l) (hs : Sub l K) {i : Nat} (hi : i < gb.toNat) (h1 : 1 ≤ i) (hf : mbits img l 480 i = false) (hlow : ∀ j, j < i → mbits img l 480 j = true) {at_ : Int} (ha : 488 ≤ at_ ∧ at_ < (img.length : Int)) (hl : l.length + 10 ≤ 96)
    (k1 : ∀ z, 480 ≤ z ∧ z < 488 → z ∈ K) (k2 : ∀ z, 488 + 16 * gi + 8 * (i : Int) ≤ z ∧ z < 488 + 16 * gi + 8 * (i : Int) + 8 → z ∈ K) (k3 : at_ ∈ K) {m : List (Int × Int)} (e : btake_M img l 1 gi gb at_ = some ((i : Int), 0, m)) : Sub m K := by
  have hg := h.g
  have hlen := h.len
  obtain ⟨l1, a1, a2, a3, a4, a5, a6, a7⟩ := mset_in (is_ := true) (at_ := 480) (i_ := (i : Int)) (many := gb) h.vr h.ok (by omega) (by omega) (by omega)
  have hp := place9_in (n := (i : Int)) h.may (by omega)
  obtain ⟨l2, c1, c2, c3, c4, c5⟩ := clear_ok (ns := ownL (488 + 16 * gi + 8 * (i : Int))) a3 a2 (fun n hn => by rw [mem_own] at hn; omega) (by rw [show (ownL (488 + 16 * gi + 8 * (i : Int))).length = 8 from rfl]; omega)
  rw [show (ownL (488 + 16 * gi + 8 * (i : Int))).length = 8 from rfl] at c4
  have s1 : Sub l1 K := by rw [a5]; exact vset_keys hs (k1 _ (by omega))
  have s2 : Sub l2 K := by
    have := clear_keys (img := img) s1 (ns := ownL (488 + 16 * gi + 8 * (i : Int))) fun n hn => k2 n (mem_own.1 hn)
    rw [c1] at this
    exact this
  have hT : takeBF img l 1 gi gb 480 = ((i : Int), 0, l2) := by
    unfold takeBF
    rw [lst_at hi hf hlow]
    simp only
    rw [if_pos trivial, a1, if_pos rfl, hp]
    simp only
    rw [c1, if_pos rfl]
  have hw := h.words
  have hI : ¬ ((i : Int) = 0) := by omega
  have hd2 : Dk gi gb img l2 := ⟨h.may, h.len, c3, c2⟩
  obtain ⟨m2, d1, d2, d3, d4⟩ := hd2.write (a := at_) (x := (i : Int)) (by omega) (by unfold U64; omega) (by omega)
  have e2 : btake_M img l 1 gi gb at_ = some ((i : Int), 0, m2) := by
    unfold btake_M
    refine need_of (by omega) ?_
    rw [if_pos ⟨h.may, by omega⟩, place7 h.may]
    simp only [Int.reduceMul, Int.reduceAdd]
    rw [atakeb_ok h.vr (by omega) (by omega), hT]
    simp only [Option.bind, if_true, if_neg hI]
    unfold btake_J1
    rw [if_pos rfl]
    refine need_of (by omega) ?_
    simp only [Option.bind, d1]
    unfold btake_J2
    rw [if_pos rfl]
  rw [e2] at e
  have em : m2 = m := by
    have := (Prod.mk.inj (Option.some.inj e)).2
    exact (Prod.mk.inj this).2
  rw [← em]
  unfold vwrite at d1
  rw [if_neg (by omega)] at d1
  split at d1
  · rw [← (Prod.mk.inj d1).2]; exact s2
  · rw [vput_in (by omega) (by omega)] at d1
    rw [← (Prod.mk.inj d1).2]; exact vset_keys s2 k3
end
section
variable {gi gb : Int} {img : List Int} {l : List (Int × Int)} {n : Int} {O : Nat → Prop} {hd : Hd} {f : Nat → Int} {c : Int} {K : List Int}
def blkL (gi b : Int) : List Int := ownL (488 + 16 * gi + 8 * b)
theorem mem_blk {gi b z : Int} : z ∈ blkL gi b ↔ 488 + 16 * gi + 8 * b ≤ z ∧ z < 488 + 16 * gi + 8 * b + 8 := mem_own
structure Base (gi n c : Int) (K : List Int) : Prop where
  map : ∀ z, 480 ≤ z ∧ z < 488 → z ∈ K
  node : ∀ z, 491 + 16 * n ≤ z ∧ z ≤ 496 + 16 * n → z ∈ K
  chain : c ≠ 0 → ∀ z, 488 + 16 * gi + 8 * c ≤ z ∧ z < 488 + 16 * gi + 8 * c + 8 → z ∈ K
theorem Base.word (hb : Base gi n c K) {k : Nat} (hk : k < 12) (hc : k < 4 ∨ c ≠ 0) : wordAt gi n c k ∈ K := by
  unfold wordAt
  by_cases h4 : k < 4
  · rw [if_pos h4]; exact hb.node _ (by omega)
  · rw [if_neg h4]; exact hb.chain (by omega) _ (by omega)
structure TakeR (gi gb : Int) (img : List Int) (l : List (Int × Int)) (n : Int) (O : Nat → Prop) (hd : Hd) (f : Nat → Int) (c : Int) (k : Nat) (b c' : Int) (m : List (Int × Int)) : Prop where
  mp : Mp gi gb img m n O hd (upd f k b) c'
  pos : 0 < b
  free : mbits img l 480 b.toNat = false
  chain : c' = c ∧ (k < 4 ∨ c ≠ 0) ∨ c = 0 ∧ 4 ≤ k ∧ 0 < c' ∧ mbits img l 480 c'.toNat = false
  zero : ∀ z, 488 + 16 * gi + 8 * b ≤ z ∧ z < 488 + 16 * gi + 8 * b + 8 → vget img m z = 0
  rest : ∀ z, ¬ (480 ≤ z ∧ z < 488) → ¬ (492 + 16 * n ≤ z ∧ z ≤ 496 + 16 * n) → ¬ (488 + 16 * gi + 8 * b ≤ z ∧ z < 488 + 16 * gi + 8 * b + 8) → ¬ (4 ≤ k ∧ 488 + 16 * gi + 8 * c' ≤ z ∧ z < 488 + 16 * gi + 8 * c' + 8) → vget img m z = vget img l z
  sub : ∀ K, Sub l K → Base gi n c' K → (∀ z ∈ blkL gi b, z ∈ K) → Sub m K
  count : (∀ b, ¬ O b) → (cnt (mbits img m 480) gb.toNat : Int) = (cnt (mbits img l 480) gb.toNat : Nat) + needF f c k
theorem own_upd {b c' : Int} {k : Nat} (hk : k < 12) (h0 : f k = 0) (hb : b ≠ 0) (hc : c' = c ∧ (k < 4 ∨ c ≠ 0) ∨ c = 0 ∧ 4 ≤ k ∧ 0 < c') : ((ownF (upd f k b) c').length : Int) = (ownF f c).length + needF f c k := by
  have hN : needF f c k = if k < 4 ∨ c ≠ 0 then 1 else 2 := by unfold needF; rw [if_pos h0]
  have hu := listF_upd (n := 12) h0 hb
  rw [if_pos hk] at hu
  rw [hN]
  rcases hc with ⟨e, hor⟩ | ⟨e1, hk4, e3⟩
  · subst e
    unfold ownF
    rw [if_pos hor]
    by_cases hc : c' = 0
    · rw [if_pos hc, if_pos hc]; omega
    · rw [if_neg hc, if_neg hc]; simp only [List.length_append, List.length_cons, List.length_nil]; omega
  · unfold ownF
    rw [if_pos e1, if_neg (show ¬ c' = 0 by omega), if_neg (by omega)]
    simp only [List.length_append, List.length_cons, List.length_nil]
    omega
theorem Mp.takeK (h : Mp gi gb img l n O hd f c) {k : Nat} (hk : k < 12) (h0 : f k = 0) (hfr : ¬ gb - (cnt (mbits img l 480) gb.toNat : Nat) < needF f c k) (hl : l.length + (if k < 4 ∨ c ≠ 0 then 10 else 20) ≤ 96) :
    ∃ m b c', bTake_M img l 1 gi gb n (k : Int) = some (b, 0, m) ∧ TakeR gi gb img l n O hd f c k b c' m := by
  have hg := h.dk.g
  have hlen := h.dk.len
  have hw := h.dk.words
  have hnr := h.nr
  have hrc := h.rc
  have cntOf : ∀ (m : List (Int × Int)) (b c' : Int), Mp gi gb img m n O hd (upd f k b) c' → b ≠ 0 → (c' = c ∧ (k < 4 ∨ c ≠ 0) ∨ c = 0 ∧ 4 ≤ k ∧ 0 < c') → (∀ b, ¬ O b) → (cnt (mbits img m 480) gb.toNat : Int) = (cnt (mbits img l 480) gb.toNat : Nat) + needF f c k := fun m b c' hm hb hc hO => by
    have e1 := hm.count hO
    have e2 := h.count hO
    have e3 := own_upd hk h0 hb hc
    omega
  unfold bTake_M
  rw [h.at hk]
  simp only [Option.bind, if_true]
  unfold bTake_J1
  rw [decide_eq_true h0, if_neg (by decide)]
  have hcnt := cnt_le (mbits img l 480) gb.toNat
  have hfree := afree_ok (img := img) (l := l) (gi := gi) (gb := gb) (ia := 472) (ba := 480) h.dk.vr (by omega) (by omega) (by omega) (by omega)
  unfold freeF at hfree
  have hN : needF f c k = if k < 4 ∨ c ≠ 0 then 1 else 2 := by unfold needF; rw [if_pos h0]
  rw [show ∀ x : Option (Int × Int × List (Int × Int)), Go.Proofs.YtmmclabkkigiaaaDoor.need ((img.length : Int) ≤ 1000000000000) x = x from fun x => need_of (by omega) rfl, if_pos ⟨h.dk.may, by omega⟩, place6 h.dk.may, place7 h.dk.may]
  simp only [Int.reduceMul, Int.reduceAdd]
  rw [hfree, h.need hk]
  simp only [Option.bind]
  rw [if_neg hfr, h.word hk]
  simp only
  have lowest : ∀ l', cnt (mbits img l' 480) gb.toNat < gb.toNat → ∃ i, i < gb.toNat ∧ mbits img l' 480 i = false ∧ ∀ j, j < i → mbits img l' 480 j = true := fun l' hl' => by
    rcases lst_cases (mbits img l' 480) gb.toNat with ⟨i, h1, h2, h3, _⟩ | ⟨h1, _⟩
    · exact ⟨i, h1, h2, h3⟩
    · have := cnt_full h1
      omega
  obtain ⟨i, i1, i2, i3⟩ := lowest l (by rw [hN] at hfr; split at hfr <;> omega)
  by_cases hc : k < 4 ∨ c ≠ 0
  · rw [if_pos hc] at hl
    have ht : (if k < 4 then true else !decide (c = 0)) = true := by
      rcases hc with hc | hc
      · rw [if_pos hc]
      · split
        · rfl
        · simp [hc]
    rw [ht, if_pos rfl]
    obtain ⟨m, t1, t2, t3, t4, t5, t6⟩ := h.takeW hk hc h0 i1 i2 i3 (by omega)
    unfold bTake_J2
    rw [t1]
    refine ⟨m, (i : Int), c, rfl, t4, by omega, by rw [Int.toNat_natCast]; exact i2, .inl ⟨rfl, hc⟩, fun z hz => ?_, fun z z1 z2 z3 z4 => ?_, fun K hs hB hK => ?_, cntOf m _ c t4 (by omega) (.inl ⟨rfl, hc⟩)⟩
    · rw [t5 z (by omega), if_neg, if_pos hz]
      have hi3 : ¬ c = (i : Int) := fun e => by
        have := (h.bits i (by omega)).2 (.inr (.inr (.inl e)))
        rw [i2] at this
        cases this
      unfold wordAt
      by_cases h4 : k < 4
      · rw [if_pos h4]; omega
      · rw [if_neg h4]; omega
    · rw [t5 z z1, if_neg, if_neg z3]
      unfold wordAt
      by_cases h4 : k < 4
      · rw [if_pos h4]; omega
      · rw [if_neg h4]; omega
    · exact h.dk.take_keys hs i1 t3 i2 i3 (h.wordIn hk) (by omega) hB.map (fun z hz => hK z (mem_blk.2 hz)) (hB.word hk hc) t1
  · rw [if_neg hc] at hl
    have hc0 : c = 0 := by omega
    have hk4 : 4 ≤ k := by omega
    subst hc0
    rw [if_neg (show ¬ k < 4 by omega), if_neg (by simp), h.own (by omega), show 488 + 16 * n + 8 = 496 + 16 * n by omega]
    simp only
    obtain ⟨m1, t1, t2, t3, t4, t5, t6⟩ := h.takeC i1 i2 i3 (by omega)
    rw [t1]
    simp only [if_true]
    rw [t4.word hk]
    simp only
    have hset := cnt_set (f := mbits img l 480) (j := i) (b := true) (n := gb.toNat) i1
    have hcc : cnt (mbits img m1 480) gb.toNat = cnt (fun j => if j = i then true else mbits img l 480 j) gb.toNat := cnt_congr fun j hj => t6 j (by omega)
    rw [← hcc, i2] at hset
    simp at hset
    have hN2 : needF f 0 k = 2 := by rw [hN, if_neg (by omega)]
    rw [hN2] at hfr
    obtain ⟨i', j1, j2, j3⟩ := lowest m1 (by omega)
    obtain ⟨m, s1, s2, s3, s4, s5, s6⟩ := t4.takeW hk (.inr (by omega)) h0 j1 j2 j3 (by omega)
    unfold bTake_J2
    rw [s1]
    have hii : i' ≠ i := fun e => by
      have := t6 i' (by omega)
      rw [if_pos e, j2] at this
      cases this
    have hb0 : mbits img l 480 i' = false := by
      have := t6 i' (by omega)
      rw [if_neg hii, j2] at this
      exact this.symm
    refine ⟨m, (i' : Int), (i : Int), rfl, s4, by omega, by rw [Int.toNat_natCast]; exact hb0, .inr ⟨by trivial, hk4, by omega, by rw [Int.toNat_natCast]; exact i2⟩, fun z hz => ?_, fun z z1 z2 z3 z4 => ?_, fun K hs hB hK => ?_, cntOf m _ _ s4 (by omega) (.inr ⟨by trivial, hk4, by omega⟩)⟩
    · rw [s5 z (by omega), if_neg, if_pos hz]
      unfold wordAt
      rw [if_neg (by omega)]
      omega
    · rw [s5 z z1, if_neg, if_neg z3, t5 z z1, if_neg (by omega), if_neg (by omega)]
      unfold wordAt
      rw [if_neg (by omega)]
      omega
    · have h1 : Sub m1 K := h.dk.take_keys hs i1 t3 i2 i3 (by omega) (by omega) hB.map (fun z hz => hB.chain (by omega) z hz) (hB.node _ (by omega)) t1
      exact t4.dk.take_keys h1 j1 s3 j2 j3 (t4.wordIn hk) (by omega) hB.map (fun z hz => hK z (mem_blk.2 hz)) (hB.word hk (.inr (by omega))) s1
end
end Go.Proofs.YtmmclabkkigiaaaDoor

namespace Go.Proofs.YtmmclabkkigiaaaDoor
open Go Go.RowKit
set_option linter.unusedVariables false
set_option linter.unusedSimpArgs false

def dat (img : List Int) (l : List (Int × Int)) (gi : Int) (f : Nat → Int) (i : Nat) : Int := if f (i / 64) = 0 then 0 else bt img l (488 + 16 * gi + 8 * f (i / 64)) (i % 64)
def rdL (d : Nat → Int) (a n : Nat) : List Int := (List.range n).map fun i => d (a + i)
theorem rdL_len (d : Nat → Int) (a n : Nat) : (rdL d a n).length = n := by simp [rdL]
theorem rdL_get {d : Nat → Int} {a n i : Nat} (hi : i < n) : (rdL d a n).getD i 0 = d (a + i) := by
  simp [rdL, List.getD, hi]
theorem rdL_app (d : Nat → Int) (a n m : Nat) : rdL d a n ++ rdL d (a + n) m = rdL d a (n + m) := by
  unfold rdL
  rw [List.range_add, List.map_append, List.map_map]
  congr 1
  refine List.map_congr_left fun i _ => ?_
  simp only [Function.comp]
  congr 1
  omega
section
variable {gi gb : Int} {img : List Int} {l : List (Int × Int)} {n : Int} {O : Nat → Prop} {hd : Hd} {f : Nat → Int} {c : Int} {K : List Int}
theorem TakeR.dat (h : Mp gi gb img l n O hd f c) {k : Nat} (hk : k < 12) (h0 : f k = 0) {b c' : Int} {m : List (Int × Int)} (t : TakeR gi gb img l n O hd f c k b c' m) {i : Nat} (hi : i < 768) : Go.Proofs.YtmmclabkkigiaaaDoor.dat img m gi (upd f k b) i = Go.Proofs.YtmmclabkkigiaaaDoor.dat img l gi f i := by
  have hg := h.dk.g
  have hnr := h.nr
  have hb := t.pos
  unfold Go.Proofs.YtmmclabkkigiaaaDoor.dat
  by_cases e : i / 64 = k
  · rw [e, upd_at, h0, if_neg (by omega), if_pos rfl]
    unfold bt
    rw [t.zero _ (by omega), byt_zero]
  · rw [upd_ne e]
    by_cases e0 : f (i / 64) = 0
    · rw [if_pos e0, if_pos e0]
    · rw [if_neg e0, if_neg e0]
      have hr := h.rf (i / 64) (by omega)
      have hfb : f (i / 64) ≠ b := fun q => e (t.mp.inj (i / 64) k (by omega) hk (by rw [upd_ne e]; exact e0) (by rw [upd_ne e, upd_at]; exact q))
      have hrc := t.mp.rc
      have hfc : c' ≠ 0 → f (i / 64) ≠ c' := fun q => by
        have := t.mp.fc (i / 64) (by omega) q
        rw [upd_ne e] at this
        exact this
      refine bt_eq (t.rest _ (by omega) (by omega) (by omega) ?_)
      by_cases hc0 : c' = 0
      · subst hc0; omega
      · have := hfc hc0; omega
theorem Mp.data (h : Mp gi gb img l n O hd f c) {m : List (Int × Int)} (hm : Dk gi gb img m) {k : Nat} (hk : k < 12) (h0 : f k ≠ 0) (hw : ∀ z, ¬ (488 + 16 * gi + 8 * f k ≤ z ∧ z < 488 + 16 * gi + 8 * f k + 8) → vget img m z = vget img l z) : Mp gi gb img m n O hd f c := by
  have hg := h.dk.g
  have hnr := h.nr
  have hr := h.rf k hk
  have hrc := h.rc
  refine ⟨hm, hnr, h.hd, ?_, ?_, ?_, ?_, ?_, fun j hj => ?_, ?_, fun j j1 j2 => ?_, h.rf, hrc, h.inj, h.fc, fun b hb => ?_, h.od⟩
  · rw [hw _ (by omega)]; exact h.w0
  · rw [hw _ (by omega)]; exact h.w1
  · rw [hw _ (by omega)]; exact h.w2
  · rw [hw _ (by omega)]; exact h.w3
  · rw [hw _ (by omega)]; exact h.w9
  · rw [hw _ (by omega)]; exact h.wd j hj
  · rw [hw _ (by omega)]; exact h.w8
  · rw [h.we j j1 j2]
    by_cases hc : c = 0
    · rw [if_pos hc, if_pos hc]
    · have := h.fc k hk hc
      rw [if_neg hc, if_neg hc, hw _ (by omega)]
  · rw [← h.bits b hb]
    rw [mbits_congr (img' := img) (l' := l) (hw _ (by omega))]
theorem Mp.size (h : Mp gi gb img l n O hd f c) {m : List (Int × Int)} {s : Int} (hs : s ≤ 768) (hk : hd.k = 1) (hm : Dk gi gb img m) (hw : ∀ z, vget img m z = if z = 491 + 16 * n then s else vget img l z) : Mp gi gb img m n O { hd with s := s } f c := by
  have hg := h.dk.g
  have hnr := h.nr
  have hrc := h.rc
  have hh := h.hd
  unfold HdOk at hh
  refine ⟨hm, hnr, ?_, ?_, ?_, ?_, ?_, ?_, fun j hj => ?_, ?_, fun j j1 j2 => ?_, h.rf, hrc, h.inj, h.fc, fun b hb => ?_, h.od⟩
  · unfold HdOk
    refine ⟨hh.1, ⟨hh.2.1.1, hh.2.1.2.1, hs⟩, .inl ?_⟩
    rcases hh.2.2 with q | q
    · exact q
    · omega
  · rw [hw, if_neg (by omega)]; exact h.w0
  · rw [hw, if_neg (by omega)]; exact h.w1
  · rw [hw, if_neg (by omega)]; exact h.w2
  · rw [hw, if_pos rfl]
  · rw [hw, if_neg (by omega)]; exact h.w9
  · rw [hw, if_neg (by omega)]; exact h.wd j hj
  · rw [hw, if_neg (by omega)]; exact h.w8
  · rw [h.we j j1 j2]
    by_cases hc : c = 0
    · rw [if_pos hc, if_pos hc]
    · rw [if_neg hc, if_neg hc, hw, if_neg (by omega)]
  · rw [← h.bits b hb]
    rw [mbits_congr (img' := img) (l' := l) (by rw [hw, if_neg (by omega)])]
theorem dat_size {m : List (Int × Int)} {s : Int} (h : Mp gi gb img l n O hd f c) (hw : ∀ z, vget img m z = if z = 491 + 16 * n then s else vget img l z) {i : Nat} (hi : i < 768) : dat img m gi f i = dat img l gi f i := by
  have hr := h.rf (i / 64) (by omega)
  have hnr := h.nr
  unfold dat
  split
  · rfl
  · exact bt_eq (by rw [hw, if_neg (by omega)])
theorem PutR.dat (h : Mp gi gb img l n O hd f c) {k : Nat} (hk : k < 12) (h0 : f k ≠ 0) {K : List Int} {fo : Nat} {bs : List Int} {m : List (Int × Int)} (t : PutR gi gb img l K (488 + 16 * gi + 8 * f k) fo bs m) {i : Nat} (hi : i < 768) :
    Go.Proofs.YtmmclabkkigiaaaDoor.dat img m gi f i = if i / 64 = k ∧ fo ≤ i % 64 ∧ i % 64 < fo + bs.length then bs.getD (i % 64 - fo) 0 else Go.Proofs.YtmmclabkkigiaaaDoor.dat img l gi f i := by
  have hr := h.rf (i / 64) (by omega)
  have hrk := h.rf k hk
  unfold Go.Proofs.YtmmclabkkigiaaaDoor.dat
  by_cases e : i / 64 = k
  · rw [e, if_neg h0, if_neg h0, t.bytes _ (by omega)]
    by_cases q : fo ≤ i % 64 ∧ i % 64 < fo + bs.length
    · rw [if_pos q, if_pos ⟨rfl, q⟩]
    · rw [if_neg q, if_neg fun x => q x.2]
  · rw [if_neg (fun x : _ ∧ _ => e x.1)]
    split
    · rfl
    · rename_i e0
      have hne : f (i / 64) ≠ f k := fun q => e (h.inj _ _ (by omega) hk e0 q)
      exact bt_eq (t.out _ (by omega))
theorem dread1_ok (h : Mp gi gb img l n O hd f c) {k lo hi : Nat} (hk : k < 12) (h1 : 64 * k ≤ lo) (h2 : lo ≤ hi) (h3 : hi ≤ 64 * k + 64) {out : List Int} (ho : out.length ≤ 768) :
    dread1_M img l 1 gi gb n (k : Int) (lo : Int) (hi : Int) out = some (0, out ++ rdL (dat img l gi f) lo (hi - lo)) := by
  have hr := h.rf k hk
  have e : (((List.range 64).map fun j => if f k = 0 then 0 else bt img l (488 + 16 * gi + 8 * f k) j).drop (lo - 64 * k)).take (hi - lo) = rdL (dat img l gi f) lo (hi - lo) := by
    refine eq_of_getD 0 (by simp [rdL]; omega) fun j hj => ?_
    simp only [List.length_take, List.length_drop, List.length_map, List.length_range] at hj
    rw [rdL_get (by omega)]
    unfold dat
    rw [show (lo + j) / 64 = k by omega, show (lo + j) % 64 = lo - 64 * k + j by omega]
    simp only [List.getD, List.getElem?_take, List.getElem?_drop, List.getElem?_map]
    rw [if_pos (by omega), List.getElem?_range (by omega)]
    rfl
  unfold dread1_M
  rw [h.at hk]
  simp only [Option.bind, if_true]
  rw [dblock_eq h.dk hr, show ((lo : Int) - (k : Int) * 64).toNat = lo - 64 * k by omega, show ((hi : Int) - (k : Int) * 64).toNat = hi - 64 * k by omega, show hi - 64 * k - (lo - 64 * k) = hi - lo by omega]
  simp only
  rw [e]
  have hl : ((List.range 64).map fun j => if f k = 0 then (0 : Int) else bt img l (488 + 16 * gi + 8 * f k) j).length = 64 := by simp
  rw [hl, rdL_len]
  exact need_of (by omega) (need_of (by omega) (need_of (by omega) (need_of (by omega) (need_of (by omega) rfl))))
theorem dreadP_ok (h : Mp gi gb img l n O hd f c) {a t : Nat} (ht : a ≤ t ∧ t ≤ 768) : dreadP_M img l 1 gi gb n (a : Int) (t : Int) [] = some (0, rdL (dat img l gi f) a (t - a)) := by
  unfold dreadP_M
  refine need_of (by omega) (need_of (by omega) ?_)
  refine iter_run (fun s => ((a : Int) / 64 ≤ s.1 ∧ s.1 ≤ 12) ∧ s.2 = rdL (dat img l gi f) a (min t (max a (64 * s.1.toNat)) - a)) (fun s => (13 - s.1).toNat) ?_ _ _ ⟨by simp only; omega, ?_⟩ (fuel_lt (by simp only; omega))
  rotate_left
  · simp only
    rw [show min t (max a (64 * ((a : Int) / 64).toNat)) - a = 0 by omega]
    rfl
  rintro k ⟨p, q⟩ ⟨h1, h2⟩ ih
  simp only at h1 h2 ih
  obtain ⟨pn, rfl⟩ := Int.eq_ofNat_of_zero_le (show 0 ≤ p by omega)
  rw [Int.toNat_natCast] at h2
  unfold dreadP_B0
  simp only
  refine need_of (by omega) ?_
  by_cases hp : ((pn : Nat) : Int) * 64 < (t : Int)
  · rw [if_pos hp]
    refine need_of (by omega) (need_of (by omega) (need_of (by omega) ?_))
    have emx : mx (a : Int) (((pn : Nat) : Int) * 64) = ((max a (64 * pn) : Nat) : Int) := by unfold mx; split <;> omega
    have emn : mn (t : Int) ((((pn : Nat) : Int) + 1) * 64) = ((min t (64 * pn + 64) : Nat) : Int) := by unfold mn; split <;> omega
    rw [emx, emn]
    refine bind_of (dread1_ok h (by omega) (by omega) (by omega) (by omega) (by rw [h2, rdL_len]; omega)) ?_
    rw [if_pos rfl]
    refine need_of (by omega) (ih _ ⟨by simp only; omega, ?_⟩ (by simp only; omega))
    simp only
    rw [h2, show ((((pn : Nat) : Int) + 1)).toNat = pn + 1 by omega]
    have e2 := rdL_app (dat img l gi f) a (max a (64 * pn) - a) (min t (64 * pn + 64) - max a (64 * pn))
    rw [show a + (max a (64 * pn) - a) = max a (64 * pn) by omega] at e2
    rw [show min t (max a (64 * pn)) - a = max a (64 * pn) - a by omega, e2]
    congr 1
    omega
  · rw [if_neg hp, h2]
    congr 3
    omega
theorem dRead_ok (h : Mp gi gb img l n O hd f c) (hk : hd.k ≠ 2) (hs : 0 ≤ hd.s ∧ hd.s ≤ 768) {at_ z : Int} (ha : U64 at_) (hz : U64 z) :
    dRead_M img l 1 gi gb n at_ z = some (strOfNums (rdL (dat img l gi f) at_.toNat (min z.toNat (hd.s - at_).toNat)), 0) := by
  unfold dRead_M
  rw [h.iget]
  unfold U64 at ha hz
  have e0 : strOfNums [] = ByteArray.empty := by rfl
  have emn : z ≠ 0 → at_ < hd.s → (at_ + mn z ((hd.s - at_) % 18446744073709551616)) % 18446744073709551616 = ((at_.toNat + min z.toNat (hd.s - at_).toNat : Nat) : Int) := fun _ _ => by unfold mn; split <;> omega
  simp only [if_true]
  rw [if_neg hk]
  by_cases h1 : at_ ≥ hd.s
  · rw [if_pos h1, show (hd.s - at_).toNat = 0 by omega, Nat.min_zero]
    exact congrArg some (by rw [show rdL (dat img l gi f) at_.toNat 0 = [] from rfl, e0])
  · rw [if_neg h1]
    by_cases h2 : z = 0
    · rw [if_pos h2, h2, show min (Int.toNat 0) (hd.s - at_).toNat = 0 by omega]
      exact congrArg some (by rw [show rdL (dat img l gi f) at_.toNat 0 = [] from rfl, e0])
    · rw [if_neg h2, emn h2 (by omega)]
      refine need_of (by omega) (need_of (by omega) ?_)
      have ea : at_ = ((at_.toNat : Nat) : Int) := by omega
      have hP := dreadP_ok h (a := at_.toNat) (t := at_.toNat + min z.toNat (hd.s - at_).toNat) (by omega)
      rw [← ea, show at_.toNat + min z.toNat (hd.s - at_).toNat - at_.toNat = min z.toNat (hd.s - at_).toNat by omega] at hP
      rw [hP]
      simp only [Option.bind, if_true]
end
end Go.Proofs.YtmmclabkkigiaaaDoor

namespace Go.Proofs.YtmmclabkkigiaaaDoor
open Go Go.RowKit
set_option linter.unusedVariables false
set_option linter.unusedSimpArgs false

def zcF (f : Nat → Int) : Nat → Nat → Nat
  | _, 0 => 0
  | k, t + 1 => (if f k = 0 then 1 else 0) + zcF f (k + 1) t
def chF (f : Nat → Int) (c : Int) : Nat → Nat → Nat
  | _, 0 => 0
  | k, t + 1 => if c = 0 ∧ 4 ≤ k ∧ f k = 0 then 1 else chF f c (k + 1) t
def needT (f : Nat → Int) (c : Int) (k t : Nat) : Int := (zcF f k t : Int) + (chF f c k t : Int)
theorem zcF_le (f : Nat → Int) : ∀ k t, zcF f k t ≤ t
  | _, 0 => by simp [zcF]
  | k, t + 1 => by
    have := zcF_le f (k + 1) t
    unfold zcF
    split <;> omega
theorem chF_le (f : Nat → Int) (c : Int) : ∀ k t, chF f c k t ≤ 1
  | _, 0 => by simp [chF]
  | k, t + 1 => by
    have := chF_le f c (k + 1) t
    unfold chF
    split <;> omega
theorem zcF_congr {f g : Nat → Int} : ∀ {k t : Nat}, (∀ j, k ≤ j → j < k + t → f j = g j) → zcF f k t = zcF g k t
  | _, 0, _ => rfl
  | k, t + 1, h => by
    unfold zcF
    rw [h k (by omega) (by omega), zcF_congr (k := k + 1) (t := t) fun j a b => h j (by omega) (by omega)]
theorem chF_congr {f g : Nat → Int} {c : Int} : ∀ {k t : Nat}, (∀ j, k ≤ j → j < k + t → f j = g j) → chF f c k t = chF g c k t
  | _, 0, _ => rfl
  | k, t + 1, h => by
    unfold chF
    rw [h k (by omega) (by omega), chF_congr (k := k + 1) (t := t) fun j a b => h j (by omega) (by omega)]
theorem chF_has {f : Nat → Int} {c : Int} (hc : c ≠ 0) : ∀ k t, chF f c k t = 0
  | _, 0 => rfl
  | k, t + 1 => by
    unfold chF
    rw [if_neg fun q => hc q.1, chF_has hc (k + 1) t]
theorem needT_has {f : Nat → Int} {c : Int} {k t : Nat} (h : f k ≠ 0) : needT f c k (t + 1) = needT f c (k + 1) t := by
  unfold needT
  rw [zcF, chF, if_neg h, if_neg fun q => h q.2.2]
  omega
theorem needT_full {f : Nat → Int} {c : Int} : ∀ {k t : Nat}, (∀ j, k ≤ j → j < k + t → f j ≠ 0) → needT f c k t = 0
  | _, 0, _ => rfl
  | k, t + 1, h => by
    rw [needT_has (h k (by omega) (by omega))]
    exact needT_full fun j a b => h j (by omega) (by omega)
theorem needT_take {f : Nat → Int} {c c' b : Int} {k t : Nat} (h : f k = 0) (hc : c' = c ∧ (k < 4 ∨ c ≠ 0) ∨ c = 0 ∧ 4 ≤ k ∧ 0 < c') : needT f c k (t + 1) = needF f c k + needT (upd f k b) c' (k + 1) t := by
  have e1 : zcF (upd f k b) (k + 1) t = zcF f (k + 1) t := zcF_congr fun j a _ => upd_ne (by omega)
  have e2 : chF (upd f k b) c' (k + 1) t = chF f c' (k + 1) t := chF_congr fun j a _ => upd_ne (by omega)
  unfold needT needF
  rw [e1, e2, zcF, chF, if_pos h, if_pos h]
  rcases hc with ⟨e, q⟩ | ⟨q1, q2, q3⟩
  · rw [e, if_neg (show ¬ (c = 0 ∧ 4 ≤ k ∧ f k = 0) by omega), if_pos q]
    omega
  · rw [if_pos (show c = 0 ∧ 4 ≤ k ∧ f k = 0 from ⟨q1, q2, h⟩), if_neg (show ¬ (k < 4 ∨ c ≠ 0) by omega), chF_has (show c' ≠ 0 by omega)]
    omega
section
variable {gi gb : Int} {img : List Int} {l : List (Int × Int)} {n : Int} {O : Nat → Prop} {hd : Hd} {f : Nat → Int} {c : Int} {K : List Int}
theorem dneed1_ok (h : Mp gi gb img l n O hd f c) {k : Nat} (hk : k < 12) {al ch : Int} (ha : 0 ≤ al ∧ al ≤ 1000) :
    dneed1_M img l 1 gi gb n (k : Int) al ch = some (0, al + (if f k = 0 then 1 else 0), if c = 0 ∧ 4 ≤ k ∧ f k = 0 then 1 else ch) := by
  unfold dneed1_M
  refine bind_of (h.at hk) (bind_of (h.need hk) ?_)
  unfold needF
  by_cases h0 : f k = 0
  · rw [if_pos h0, if_pos h0]
    by_cases hc : k < 4 ∨ c ≠ 0
    · rw [if_pos hc, if_pos (by omega), if_neg (by omega)]
      refine need_of (by omega) ?_
      unfold dneed1_J1
      rw [if_neg (by omega)]
    · rw [if_neg hc, if_pos (by omega), if_pos (by omega)]
      refine need_of (by omega) ?_
      unfold dneed1_J1
      rw [if_pos (by omega)]
  · rw [if_neg h0, if_neg (by omega), if_neg h0, if_neg (by omega)]
    unfold dneed1_J1
    rw [if_neg (by omega), Int.add_zero]
def endP (t : Nat) : Nat := (t + 63) / 64
theorem dneedP_ok (h : Mp gi gb img l n O hd f c) {a t : Nat} (ht : a ≤ t ∧ t ≤ 768) :
    dneedP_M img l 1 gi gb n (a : Int) (t : Int) 0 0 = some (0, (zcF f (a / 64) (endP t - a / 64) : Int), (chF f c (a / 64) (endP t - a / 64) : Int)) := by
  unfold dneedP_M
  refine need_of (by omega) (need_of (by omega) ?_)
  refine iter_run (fun s => ((a : Int) / 64 ≤ s.1 ∧ s.1 ≤ 12) ∧ (0 ≤ s.2.1 ∧ s.2.1 ≤ s.1) ∧ s.2.1 + (zcF f s.1.toNat (endP t - s.1.toNat) : Int) = (zcF f (a / 64) (endP t - a / 64) : Int) ∧ (s.2.2 = 0 ∧ chF f c s.1.toNat (endP t - s.1.toNat) = chF f c (a / 64) (endP t - a / 64) ∨ s.2.2 = 1 ∧ chF f c (a / 64) (endP t - a / 64) = 1)) (fun s => (13 - s.1).toNat) ?_ _ _ ⟨by simp only; omega, by simp only; omega, ?_, .inl ⟨rfl, ?_⟩⟩ (fuel_lt (by simp only; omega))
  rotate_left
  · simp only
    rw [show ((a : Int) / 64).toNat = a / 64 by omega]
    omega
  · simp only
    rw [show ((a : Int) / 64).toNat = a / 64 by omega]
  rintro k ⟨p, al, ch⟩ ⟨h1, h2, h3, h4⟩ ih
  simp only at h1 h2 h3 h4 ih
  obtain ⟨pn, rfl⟩ := Int.eq_ofNat_of_zero_le (show 0 ≤ p by omega)
  rw [Int.toNat_natCast] at h3 h4
  unfold dneedP_B0
  simp only
  refine need_of (by omega) ?_
  by_cases hp : ((pn : Nat) : Int) * 64 < (t : Int)
  · rw [if_pos hp]
    have hpe : pn < endP t := by unfold endP; omega
    obtain ⟨tt, htt⟩ : ∃ tt, endP t - pn = tt + 1 := ⟨endP t - pn - 1, by omega⟩
    rw [htt, zcF] at h3
    rw [htt, chF] at h4
    refine need_of (by omega) (need_of (by omega) (need_of (by omega) ?_))
    refine bind_of (dneed1_ok h (by omega) (by omega)) ?_
    simp only
    rw [if_pos trivial]
    refine need_of (by omega) (ih _ ⟨by simp only; omega, by simp only; split <;> omega, ?_, ?_⟩ (by simp only; omega))
    · simp only
      rw [show (((pn : Nat) : Int) + 1).toNat = pn + 1 by omega, show endP t - (pn + 1) = tt by omega]
      split at h3 <;> rename_i q <;> simp only [q, if_true, if_false] <;> omega
    · simp only
      rw [show (((pn : Nat) : Int) + 1).toNat = pn + 1 by omega, show endP t - (pn + 1) = tt by omega]
      by_cases q : c = 0 ∧ 4 ≤ pn ∧ f pn = 0
      · rw [if_pos q] at h4
        rw [if_pos q]
        exact .inr ⟨rfl, by omega⟩
      · rw [if_neg q] at h4
        rw [if_neg q]
        exact h4
  · rw [if_neg hp]
    have hpe : endP t - pn = 0 := by unfold endP; omega
    rw [hpe, zcF] at h3
    rw [hpe, chF] at h4
    congr 3
    · omega
    · omega
theorem dNeed_ok (h : Mp gi gb img l n O hd f c) (hk : hd.k ≠ 2) {at_ ma : Int} (ha : 0 ≤ at_ ∧ at_ ≤ 768) (hm : -9223372036854775808 ≤ ma ∧ ma ≤ 9223372036854775807) :
    dNeed_M img l 1 gi gb n at_ ma = some (if 1 ≤ ma ∧ at_ + ma ≤ 768 then needT f c (at_.toNat / 64) (endP (at_ + ma).toNat - at_.toNat / 64) else 0) := by
  unfold dNeed_M
  rw [h.iget]
  simp only [if_true]
  rw [if_neg hk]
  by_cases h1 : ma < 1
  · rw [if_pos h1, if_neg (by omega)]
  rw [if_neg h1, if_neg (by omega)]
  refine need_of (by omega) (need_of (by omega) ?_)
  by_cases h2 : ma > 768 - at_
  · rw [if_pos h2, if_neg (by omega)]
  rw [if_neg h2, if_pos (by omega)]
  refine need_of (by omega) (need_of (by omega) (need_of (by omega) ?_))
  have hP := dneedP_ok h (a := at_.toNat) (t := (at_ + ma).toNat) (by omega)
  rw [show ((at_.toNat : Nat) : Int) = at_ by omega, show (((at_ + ma).toNat : Nat) : Int) = at_ + ma by omega] at hP
  refine bind_of hP ?_
  simp only
  rw [if_pos trivial]
  have z1 := zcF_le f (at_.toNat / 64) (endP (at_ + ma).toNat - at_.toNat / 64)
  have z2 := chF_le f c (at_.toNat / 64) (endP (at_ + ma).toNat - at_.toNat / 64)
  have z3 : endP (at_ + ma).toNat ≤ 12 := by unfold endP; omega
  exact need_of (by omega) rfl
theorem dreadyP_ok (h : Mp gi gb img l n O hd f c) {a t : Nat} (ht : a ≤ t ∧ t ≤ 768) : dreadyP_M img l 1 gi gb n (a : Int) (t : Int) = some 0 := by
  unfold dreadyP_M
  refine need_of (by omega) (need_of (by omega) ?_)
  refine iter_run (fun s => (a : Int) / 64 ≤ s ∧ s ≤ 12) (fun s => (13 - s).toNat) ?_ _ _ (by omega) (fuel_lt (by omega))
  rintro k p h1 ih
  obtain ⟨pn, rfl⟩ := Int.eq_ofNat_of_zero_le (show 0 ≤ p by omega)
  unfold dreadyP_B0
  refine need_of (by omega) ?_
  by_cases hp : ((pn : Nat) : Int) * 64 < (t : Int)
  · rw [if_pos hp]
    refine need_of (by omega) (need_of (by omega) (need_of (by omega) ?_))
    have e : dready1_M img l 1 gi gb n ((pn : Nat) : Int) = some 0 := bind_of (h.at (by omega)) rfl
    refine bind_of e ?_
    rw [if_pos rfl]
    exact need_of (by omega) (ih _ (by omega) (by omega))
  · rw [if_neg hp]
theorem dready_ok (h : Mp gi gb img l n O hd f c) (hk : hd.k ≠ 2) {a ma : Nat} (ha : 1 ≤ ma ∧ a + ma ≤ 768) :
    dready_M img l 1 gi gb n (a : Int) (ma : Int) = some (if gb - (cnt (mbits img l 480) gb.toNat : Nat) < needT f c (a / 64) (endP (a + ma) - a / 64) then 7 else 0) := by
  have hw := h.dk.words
  have hg := h.dk.g
  have hlen := h.dk.len
  unfold dready_M
  refine need_of (by omega) ?_
  refine bind_of (by rw [show (a : Int) + (ma : Int) = ((a + ma : Nat) : Int) by omega]; exact dreadyP_ok h (by omega)) ?_
  rw [if_pos rfl]
  refine need_of (by omega) ?_
  rw [if_pos ⟨h.dk.may, by omega⟩, place6 h.dk.may, place7 h.dk.may]
  simp only [Int.reduceMul, Int.reduceAdd]
  refine bind_of h.free (need_of (by omega) ?_)
  have hN := dNeed_ok h hk (at_ := (a : Int)) (ma := (ma : Int)) (by omega) (by omega)
  rw [if_pos (by omega), Int.toNat_natCast, show ((a : Int) + (ma : Int)).toNat = a + ma by omega] at hN
  refine bind_of hN ?_
  simp only
  split <;> rfl
end
end Go.Proofs.YtmmclabkkigiaaaDoor

namespace Go.Proofs.YtmmclabkkigiaaaDoor
open Go Go.RowKit
set_option linter.unusedVariables false
set_option linter.unusedSimpArgs false

def blks (gi : Int) (f : Nat → Int) (p0 : Nat) : Nat → List Int
  | 0 => []
  | t + 1 => blks gi f p0 t ++ blkL gi (f (p0 + t))
theorem blks_len (gi : Int) (f : Nat → Int) (p0 : Nat) : ∀ t, (blks gi f p0 t).length = 8 * t
  | 0 => rfl
  | t + 1 => by
    unfold blks
    rw [List.length_append, blks_len gi f p0 t, show (blkL gi (f (p0 + t))).length = 8 from rfl]
    omega
theorem mem_blks {gi : Int} {f : Nat → Int} {p0 : Nat} {z : Int} : ∀ {t : Nat}, z ∈ blks gi f p0 t ↔ ∃ j, p0 ≤ j ∧ j < p0 + t ∧ z ∈ blkL gi (f j)
  | 0 => by
    simp only [blks, List.not_mem_nil, false_iff]
    rintro ⟨j, a, b, _⟩
    omega
  | t + 1 => by
    unfold blks
    rw [List.mem_append, mem_blks]
    constructor
    · rintro (⟨j, a, b, q⟩ | q)
      · exact ⟨j, a, by omega, q⟩
      · exact ⟨p0 + t, by omega, by omega, q⟩
    · rintro ⟨j, a, b, q⟩
      by_cases e : j = p0 + t
      · subst e; exact .inr q
      · exact .inl ⟨j, a, by omega, q⟩
def kl (gi n c : Int) (f : Nat → Int) (p0 t : Nat) : List Int := ownL 480 ++ ([491 + 16 * n, 492 + 16 * n, 493 + 16 * n, 494 + 16 * n, 495 + 16 * n, 496 + 16 * n] ++ ((if c = 0 then [] else blkL gi c) ++ blks gi f p0 t))
theorem kl_len (gi n c : Int) (f : Nat → Int) (p0 t : Nat) : (kl gi n c f p0 t).length = 14 + (if c = 0 then 0 else 8) + 8 * t := by
  unfold kl
  rw [List.length_append, List.length_append, List.length_append, blks_len, show (ownL 480).length = 8 from rfl]
  simp only [List.length_cons, List.length_nil]
  by_cases h : c = 0
  · rw [if_pos h, if_pos h]
    simp only [List.length_nil]
    omega
  · rw [if_neg h, if_neg h, show (blkL gi c).length = 8 from rfl]
    omega
theorem mem_kl {gi n c z : Int} {f : Nat → Int} {p0 t : Nat} : z ∈ kl gi n c f p0 t ↔ (480 ≤ z ∧ z < 488) ∨ (491 + 16 * n ≤ z ∧ z ≤ 496 + 16 * n) ∨ (c ≠ 0 ∧ z ∈ blkL gi c) ∨ ∃ j, p0 ≤ j ∧ j < p0 + t ∧ z ∈ blkL gi (f j) := by
  unfold kl
  rw [List.mem_append, List.mem_append, List.mem_append, mem_blks, mem_own]
  have e2 : z ∈ (if c = 0 then [] else blkL gi c) ↔ c ≠ 0 ∧ z ∈ blkL gi c := by
    by_cases h : c = 0
    · rw [if_pos h]; simp [h]
    · rw [if_neg h]; simp [h]
  rw [e2]
  simp only [List.mem_cons, List.not_mem_nil, or_false]
  constructor
  · rintro (q | q | q | q)
    · exact .inl (by omega)
    · exact .inr (.inl (by omega))
    · exact .inr (.inr (.inl q))
    · exact .inr (.inr (.inr q))
  · rintro (q | q | q | q)
    · exact .inl (by omega)
    · exact .inr (.inl (by omega))
    · exact .inr (.inr (.inl q))
    · exact .inr (.inr (.inr q))
theorem kl_base (gi n c : Int) (f : Nat → Int) (p0 t : Nat) : Base gi n c (kl gi n c f p0 t) :=
  ⟨fun z hz => mem_kl.2 (.inl hz), fun z hz => mem_kl.2 (.inr (.inl hz)), fun hc z hz => mem_kl.2 (.inr (.inr (.inl ⟨hc, mem_blk.2 hz⟩)))⟩
theorem kl_mono {gi n c c' : Int} {f f' : Nat → Int} {p0 t : Nat} (hc : c ≠ 0 → c' = c) (hf : ∀ j, p0 ≤ j → j < p0 + t → f' j = f j) : ∀ z ∈ kl gi n c f p0 t, z ∈ kl gi n c' f' p0 (t + 1) := by
  intro z hz
  refine mem_kl.2 ?_
  rcases mem_kl.1 hz with q | q | ⟨q1, q2⟩ | ⟨j, a, b, q⟩
  · exact .inl q
  · exact .inr (.inl q)
  · exact .inr (.inr (.inl ⟨by rw [hc q1]; exact q1, by rw [hc q1]; exact q2⟩))
  · exact .inr (.inr (.inr ⟨j, a, by omega, by rw [hf j a b]; exact q⟩))
section
variable {gi gb : Int} {img : List Int} {l : List (Int × Int)} {n : Int} {O : Nat → Prop} {hd : Hd} {f : Nat → Int} {c : Int} {K : List Int}
theorem Mp.take_has (h : Mp gi gb img l n O hd f c) {k : Nat} (hk : k < 12) (h0 : f k ≠ 0) : bTake_M img l 1 gi gb n (k : Int) = some (f k, 0, l) := by
  unfold bTake_M
  refine bind_of (h.at hk) ?_
  rw [if_pos rfl]
  unfold bTake_J1
  rw [if_pos (by simp [h0])]
structure WrI (gi gb : Int) (img : List Int) (l : List (Int × Int)) (n : Int) (hd : Hd) (f : Nat → Int) (c : Int) (a : Nat) (ls : List Int) (p : Nat) (f' : Nat → Int) (c' : Int) (m : List (Int × Int)) : Prop where
  mp : Mp gi gb img m n (fun _ => False) hd f' c'
  sub : Sub m (kl gi n c' f' (a / 64) (p - a / 64))
  has : ∀ j, a / 64 ≤ j → j < p → f' j ≠ 0
  rest : ∀ j, j < a / 64 ∨ p ≤ j → f' j = f j
  room : needT f' c' p (endP (a + ls.length) - p) ≤ gb - (cnt (mbits img m 480) gb.toNat : Nat)
  count : (cnt (mbits img m 480) gb.toNat : Int) + needT f' c' p (endP (a + ls.length) - p) = (cnt (mbits img l 480) gb.toNat : Nat) + needT f c (a / 64) (endP (a + ls.length) - a / 64)
  bytes : ∀ i, i < 768 → dat img m gi f' i = if (a ≤ i ∧ i < a + ls.length) ∧ i < 64 * p then ls.getD (i - a) 0 else dat img l gi f i
theorem WrI.step {a p : Nat} {ls : List Int} {f' : Nat → Int} {c' : Int} {m : List (Int × Int)} (h : WrI gi gb img l n hd f c a ls p f' c' m) (hp : a / 64 ≤ p) (ha : a + ls.length ≤ 768) (h512 : ls.length ≤ 512) (hlt : 64 * p < a + ls.length) (hls : ∀ j, 0 ≤ ls.getD j 0 ∧ ls.getD j 0 ≤ 255) :
    ∃ m2 f2 c2, dwrite1_M img m 1 gi gb n (p : Int) ((max a (64 * p) : Nat) : Int) ((min (a + ls.length) (64 * p + 64) : Nat) : Int) (a : Int) ls = some (0, m2) ∧ WrI gi gb img l n hd f c a ls (p + 1) f2 c2 m2 := by
  have hg := h.mp.dk.g
  have hlen := h.mp.dk.len
  have hk12 : p < 12 := by omega
  obtain ⟨tt, htt⟩ : ∃ tt, endP (a + ls.length) - p = tt + 1 := ⟨endP (a + ls.length) - p - 1, by unfold endP; omega⟩
  have htt2 : endP (a + ls.length) - (p + 1) = tt := by omega
  have hroom := h.room
  have hcount := h.count
  rw [htt] at hroom hcount
  -- the block
  have T : ∃ m1 b c1, bTake_M img m 1 gi gb n (p : Int) = some (b, 0, m1) ∧ Mp gi gb img m1 n (fun _ => False) hd (upd f' p b) c1 ∧ b ≠ 0 ∧ Sub m1 (kl gi n c1 (upd f' p b) (a / 64) (p + 1 - a / 64)) ∧
      needT (upd f' p b) c1 (p + 1) tt ≤ gb - (cnt (mbits img m1 480) gb.toNat : Nat) ∧ (cnt (mbits img m1 480) gb.toNat : Int) + needT (upd f' p b) c1 (p + 1) tt = (cnt (mbits img l 480) gb.toNat : Nat) + needT f c (a / 64) (endP (a + ls.length) - a / 64) ∧
      ∀ i, i < 768 → dat img m1 gi (upd f' p b) i = dat img m gi f' i := by
    by_cases h0 : f' p = 0
    · have hN : needF f' c' p = if p < 4 ∨ c' ≠ 0 then 1 else 2 := by unfold needF; rw [if_pos h0]
      have hsub := keys_le h.mp.dk.ok h.sub
      rw [kl_len] at hsub
      have hz : ∀ g d k t, 0 ≤ needT g d k t := fun g d k t => by unfold needT; omega
      have hprev : p > a / 64 → p - 1 < 4 ∨ c' ≠ 0 := fun q => h.mp.hasWord (k := p - 1) (by omega) (h.has _ (by omega) (by omega))
      obtain ⟨m1, b, c1, e1, e2⟩ := h.mp.takeK hk12 h0 (by
          have := hz (upd f' p 1) (if p < 4 ∨ c' ≠ 0 then c' else 1) (p + 1) tt
          rw [needT_take (c' := if p < 4 ∨ c' ≠ 0 then c' else 1) (b := 1) h0 (by split <;> omega)] at hroom
          omega) (by split at hsub <;> split <;> omega)
      have hch : c1 = c' ∧ (p < 4 ∨ c' ≠ 0) ∨ c' = 0 ∧ 4 ≤ p ∧ 0 < c1 := by
        rcases e2.chain with q | ⟨q1, q2, q3, _⟩
        · exact .inl q
        · exact .inr ⟨q1, q2, q3⟩
      have hc := e2.count fun _ x => x
      rw [needT_take (c' := c1) (b := b) h0 hch] at hroom hcount
      have hpos := e2.pos
      refine ⟨m1, b, c1, e1, e2.mp, by omega, ?_, by omega, by omega, fun i hi => e2.dat h.mp hk12 h0 hi⟩
      refine e2.sub _ (h.sub.mono ?_) (kl_base ..) fun z hz => mem_kl.2 (.inr (.inr (.inr ⟨p, hp, by omega, by rw [upd_at]; exact hz⟩)))
      rw [show p + 1 - a / 64 = p - a / 64 + 1 by omega]
      exact kl_mono (fun q => by omega) fun j j1 j2 => upd_ne (by omega)
    · have e : upd f' p (f' p) = f' := by
        funext j
        unfold upd
        split
        · rename_i e; rw [e]
        · rfl
      rw [needT_has h0] at hroom hcount
      refine ⟨m, f' p, c', h.mp.take_has hk12 h0, by rw [e]; exact h.mp, h0, ?_, by rw [e]; exact hroom, by rw [e]; exact hcount, fun i hi => by rw [e]⟩
      rw [e, show p + 1 - a / 64 = p - a / 64 + 1 by omega]
      exact h.sub.mono (kl_mono (fun _ => rfl) fun j _ _ => rfl)
  obtain ⟨m1, b, c1, t1, t2, t3, t4, t5, t6, t7⟩ := T
  have hrb := t2.rf p hk12
  rw [upd_at] at hrb
  have hB : 488 + 16 * gi + 8 * upd f' p b p = 488 + 16 * gi + 8 * b := by rw [upd_at]
  -- the bytes
  have hbl : ((ls.drop (max a (64 * p) - a)).take (min (a + ls.length) (64 * p + 64) - max a (64 * p))).length = min (a + ls.length) (64 * p + 64) - max a (64 * p) := by
    rw [List.length_take, List.length_drop]
    omega
  have hbg : ∀ j, ((ls.drop (max a (64 * p) - a)).take (min (a + ls.length) (64 * p + 64) - max a (64 * p))).getD j 0 = if j < min (a + ls.length) (64 * p + 64) - max a (64 * p) then ls.getD (max a (64 * p) - a + j) 0 else 0 := fun j => by
    simp only [List.getD, List.getElem?_take, List.getElem?_drop]
    split <;> rfl
  have hklen := kl_len gi n c1 (upd f' p b) (a / 64) (p + 1 - a / 64)
  have hd := dput_ok (f := max a (64 * p) - 64 * p) (bs := (ls.drop (max a (64 * p) - a)).take (min (a + ls.length) (64 * p + 64) - max a (64 * p))) t2.dk t4 (by rw [hklen]; split <;> omega) (B := 488 + 16 * gi + 8 * b) (by omega)
    (fun z hz => mem_kl.2 (.inr (.inr (.inr ⟨p, hp, by omega, mem_blk.2 (by rw [upd_at]; exact hz)⟩)))) (by rw [hbl]; omega) (fun j => by
      rw [hbg]
      split
      · exact hls _
      · omega)
  obtain ⟨m2, d1, d2⟩ := hd
  have hne : upd f' p b p ≠ 0 := by rw [upd_at]; exact t3
  have d3 : PutR gi gb img m1 (kl gi n c1 (upd f' p b) (a / 64) (p + 1 - a / 64)) (488 + 16 * gi + 8 * upd f' p b p) (max a (64 * p) - 64 * p) ((ls.drop (max a (64 * p) - a)).take (min (a + ls.length) (64 * p + 64) - max a (64 * p))) m2 := by rw [hB]; exact d2
  have hM2 := t2.data d2.dk hk12 hne (fun z hz => d3.out z hz)
  have hcnt : cnt (mbits img m2 480) gb.toNat = cnt (mbits img m1 480) gb.toNat := cnt_congr fun j hj => mbits_congr (d2.out _ (by omega))
  refine ⟨m2, upd f' p b, c1, ?_, ⟨hM2, d2.sub, fun j j1 j2 => ?_, fun j hj => ?_, ?_, ?_, fun i hi => ?_⟩⟩
  · unfold dwrite1_M
    refine bind_of t1 ?_
    simp only
    rw [if_pos trivial, place9_in (n := b) t2.dk.may (by omega), show ((max a (64 * p) : Nat) : Int) - (p : Int) * 64 = ((max a (64 * p) - 64 * p : Nat) : Int) by omega, show (((max a (64 * p) : Nat) : Int) - (a : Int)).toNat = max a (64 * p) - a by omega, show (((min (a + ls.length) (64 * p + 64) : Nat) : Int) - (a : Int)).toNat = min (a + ls.length) (64 * p + 64) - a by omega,
      show min (a + ls.length) (64 * p + 64) - a - (max a (64 * p) - a) = min (a + ls.length) (64 * p + 64) - max a (64 * p) by omega]
    exact need_of (by omega) (need_of (by omega) (need_of (by omega) (need_of (by omega) (need_of (by omega) (need_of (by omega) (bind_of d1 rfl))))))
  · by_cases e : j = p
    · rw [e]; exact hne
    · rw [upd_ne e]; exact h.has j j1 (by omega)
  · rw [upd_ne (by omega)]; exact h.rest j (by omega)
  · rw [htt2, hcnt]; exact t5
  · rw [htt2, hcnt]; exact t6
  · rw [d3.dat t2 hk12 hne hi, hbl, hbg, t7 i hi, h.bytes i hi]
    by_cases e : i / 64 = p ∧ max a (64 * p) - 64 * p ≤ i % 64 ∧ i % 64 < max a (64 * p) - 64 * p + (min (a + ls.length) (64 * p + 64) - max a (64 * p))
    · rw [if_pos e, if_pos (by omega), if_pos (by omega)]
      congr 1
      omega
    · rw [if_neg e]
      by_cases q : (a ≤ i ∧ i < a + ls.length) ∧ i < 64 * p
      · rw [if_pos q, if_pos (by omega)]
      · rw [if_neg q, if_neg (by omega)]
theorem dwriteP_ok (h : Mp gi gb img [] n (fun _ => False) hd f c) {a : Nat} {ls : List Int} (ha : a + ls.length ≤ 768) (h512 : ls.length ≤ 512) (h1 : 0 < ls.length) (hls : ∀ j, 0 ≤ ls.getD j 0 ∧ ls.getD j 0 ≤ 255) (hroom : needT f c (a / 64) (endP (a + ls.length) - a / 64) ≤ gb - (cnt (mbits img [] 480) gb.toNat : Nat)) :
    ∃ m f' c', dwriteP_M img [] 1 gi gb n (a : Int) ((a : Int) + (ls.length : Int)) (a : Int) ls = some (0, m) ∧ WrI gi gb img [] n hd f c a ls (endP (a + ls.length)) f' c' m := by
  suffices H : Ok (fun r : Int × List (Int × Int) => r.1 = 0 ∧ ∃ f' c', WrI gi gb img [] n hd f c a ls (endP (a + ls.length)) f' c' r.2) (dwriteP_M img [] 1 gi gb n (a : Int) ((a : Int) + (ls.length : Int)) (a : Int) ls) by
    obtain ⟨⟨e, m⟩, e1, e2, f', c', e3⟩ := H
    simp only at e2 e3
    subst e2
    exact ⟨m, f', c', e1, e3⟩
  unfold dwriteP_M
  refine Ok.need (by omega) (Ok.need (by omega) ?_)
  have hend : endP (a + ls.length) ≤ 12 := by unfold endP; omega
  refine Ok.iter (fun s : Int × List (Int × Int) => ((a : Int) / 64 ≤ s.1 ∧ s.1 ≤ ((endP (a + ls.length) : Nat) : Int)) ∧ ∃ f' c', WrI gi gb img [] n hd f c a ls s.1.toNat f' c' s.2) (fun s => (13 - s.1).toNat) ?_ _ _ ⟨by simp only; unfold endP; omega, f, c, ?_⟩ (fuel_lt (by simp only; omega))
  rotate_left
  · simp only
    rw [show ((a : Int) / 64).toNat = a / 64 by omega]
    exact ⟨h, fun p hp => (by cases hp), fun j j1 j2 => (by omega), fun _ _ => rfl, hroom, rfl, fun i hi => by rw [if_neg (by omega)]⟩
  rintro k ⟨p, m⟩ ⟨h1, f', c', hI⟩ ih
  simp only at h1 hI ih
  obtain ⟨pn, rfl⟩ := Int.eq_ofNat_of_zero_le (show 0 ≤ p by omega)
  rw [Int.toNat_natCast] at hI
  unfold dwriteP_B0
  simp only
  refine Ok.need (by omega) (Ok.ite (fun hp => ?_) (fun hp => ?_))
  · have emx : mx (a : Int) (((pn : Nat) : Int) * 64) = ((max a (64 * pn) : Nat) : Int) := by unfold mx; split <;> omega
    have emn : mn ((a : Int) + (ls.length : Int)) ((((pn : Nat) : Int) + 1) * 64) = ((min (a + ls.length) (64 * pn + 64) : Nat) : Int) := by unfold mn; split <;> omega
    obtain ⟨m2, f2, c2, s1, s2⟩ := hI.step (by omega) ha h512 (by omega) hls
    refine Ok.need (by omega) (Ok.need (by omega) (Ok.need (by omega) ?_))
    rw [emx, emn, s1]
    refine Ok.bind (S := fun y => y = (0, m2)) (Ok.some rfl) fun y hy => ?_
    rw [hy]
    refine Ok.yes rfl (Ok.need (by omega) (ih _ ⟨by simp only; unfold endP; omega, f2, c2, ?_⟩ (by simp only; omega)))
    simp only
    rw [show (((pn : Nat) : Int) + 1).toNat = pn + 1 by omega]
    exact s2
  · have : pn = endP (a + ls.length) := by
      have : ((pn : Nat) : Int) ≤ ((endP (a + ls.length) : Nat) : Int) := h1.2
      unfold endP at *
      omega
    exact Ok.some ⟨rfl, f', c', by rw [← this]; exact hI⟩
end
end Go.Proofs.YtmmclabkkigiaaaDoor

namespace Go.Proofs.YtmmclabkkigiaaaDoor
open Go Go.RowKit
set_option linter.unusedVariables false
set_option linter.unusedSimpArgs false

theorem txt_nil {s : ByteArray} : (s.toList == ByteArray.empty.toList) = true ↔ s.size = 0 := by
  rw [ByteArray.toList_eq, ByteArray.toList_eq, beq_iff_eq]
  have e : (ByteArray.empty.data.toList : List UInt8) = [] := rfl
  rw [e]
  cases s with | mk d =>
  show d.toList = [] ↔ d.size = 0
  rw [← Array.length_toList]
  exact List.length_eq_zero_iff.symm
theorem nums_byte (s : ByteArray) (j : Nat) : 0 ≤ (strNums s).getD j 0 ∧ (strNums s).getD j 0 ≤ 255 := by
  unfold strNums
  simp only [List.getD, List.getElem?_map]
  cases s.data.toList[j]? with
  | none => simp
  | some b =>
    have := b.toNat_lt
    simp only [Option.map_some, Option.getD_some]
    omega
structure Fi (gi gb : Int) (img : List Int) (l : List (Int × Int)) (sz : Int) (f : Nat → Int) (c : Int) : Prop where
  mp : Mp gi gb img l 2 (fun _ => False) ⟨1, 0, 0, sz, 0⟩ f c
  pos : 0 ≤ sz
  tail : ∀ k : Nat, k < 12 → f k ≠ 0 → 64 * (k : Int) < sz
  zero : ∀ i : Nat, i < 768 → sz ≤ (i : Int) → dat img l gi f i = 0
section
variable {gi gb : Int} {img : List Int} {l : List (Int × Int)} {sz : Int} {f : Nat → Int} {c : Int}
theorem Fi.le (h : Fi gi gb img l sz f c) : sz ≤ 768 := h.mp.hd.2.1.2.2
theorem dat_flat (hok : VOk img l) {i : Nat} : dat (vflat img l) [] gi f i = dat img l gi f i := by
  unfold dat bt
  rw [vget_flat hok]
theorem Fi.flat (h : Fi gi gb img l sz f c) : Fi gi gb (vflat img l) [] sz f c :=
  ⟨h.mp.flat, h.pos, h.tail, fun i hi hs => by rw [dat_flat h.mp.dk.ok]; exact h.zero i hi hs⟩
theorem Fi.read (h : Fi gi gb img l sz f c) {at_ z : Int} (ha : U64 at_) (hz : U64 z) :
    dRead_M img l 1 gi gb 2 at_ z = some (strOfNums (rdL (dat img l gi f) at_.toNat (min z.toNat (sz - at_).toNat)), 0) :=
  dRead_ok h.mp (show (1 : Int) ≠ 2 by decide) ⟨h.pos, h.le⟩ ha hz
structure WroteR (gi gb : Int) (img : List Int) (f : Nat → Int) (c sz : Int) (at_ : Int) (ls : List Int) (m : List (Int × Int)) (f' : Nat → Int) (c' : Int) : Prop where
  fi : Fi gi gb img m (if at_ + (ls.length : Int) > sz then at_ + (ls.length : Int) else sz) f' c'
  bytes : ∀ i : Nat, i < 768 → dat img m gi f' i = if at_ ≤ (i : Int) ∧ (i : Int) < at_ + (ls.length : Int) then ls.getD (i - at_.toNat) 0 else dat img [] gi f i
  full : ∀ j, at_.toNat / 64 ≤ j → j < endP (at_ + (ls.length : Int)).toNat → f' j ≠ 0
  count : (cnt (mbits img m 480) gb.toNat : Int) = (cnt (mbits img [] 480) gb.toNat : Nat) + needT f c (at_.toNat / 64) (endP (at_ + (ls.length : Int)).toNat - at_.toNat / 64)
theorem Fi.write (h : Fi gi gb img [] sz f c) {at_ : Int} (ha : U64 at_) {tx : ByteArray} (htx : tx.size ≤ 512) :
    (at_ + (tx.size : Int) > 768 ∧ dWrite_M img [] 1 gi gb 2 at_ tx = some (8, [])) ∨
    (at_ + (tx.size : Int) ≤ 768 ∧ tx.size = 0 ∧ dWrite_M img [] 1 gi gb 2 at_ tx = some (0, [])) ∨
    (at_ + (tx.size : Int) ≤ 768 ∧ 0 < tx.size ∧ gb - (cnt (mbits img [] 480) gb.toNat : Nat) < needT f c (at_.toNat / 64) (endP (at_ + (tx.size : Int)).toNat - at_.toNat / 64) ∧ dWrite_M img [] 1 gi gb 2 at_ tx = some (7, [])) ∨
    (at_ + (tx.size : Int) ≤ 768 ∧ 0 < tx.size ∧ ¬ gb - (cnt (mbits img [] 480) gb.toNat : Nat) < needT f c (at_.toNat / 64) (endP (at_ + (tx.size : Int)).toNat - at_.toNat / 64) ∧ ∃ m f' c', dWrite_M img [] 1 gi gb 2 at_ tx = some (0, m) ∧ WroteR gi gb img f c sz at_ (strNums tx) m f' c') := by
  unfold U64 at ha
  have hg := h.mp.dk.g
  have hlen := h.mp.dk.len
  have hsl := strNums_len tx
  have hsz := h.le
  have hs0 := h.pos
  have eM : dWrite_M img [] 1 gi gb 2 at_ tx = dWrite_J1 img [] 1 gi gb 2 at_ tx (decide (at_ + (tx.size : Int) > 768)) := by
    unfold dWrite_M
    rw [h.mp.iget]
    simp only [if_true]
    rw [if_neg (by decide)]
    by_cases h1 : at_ > 768
    · rw [if_pos h1, decide_eq_true h1, decide_eq_true (show at_ + (tx.size : Int) > 768 by omega)]
    · rw [if_neg h1]
      refine need_of (by omega) (need_of (by omega) ?_)
      by_cases h2 : (tx.size : Int) > 768 - at_
      · rw [decide_eq_true h2, decide_eq_true (show at_ + (tx.size : Int) > 768 by omega)]
      · rw [decide_eq_false h2, decide_eq_false (show ¬ at_ + (tx.size : Int) > 768 by omega)]
  rw [eM]
  unfold dWrite_J1
  by_cases h1 : at_ + (tx.size : Int) > 768
  · exact .inl ⟨h1, by rw [if_pos (decide_eq_true h1)]⟩
  refine .inr ?_
  rw [decide_eq_false h1, if_neg (by decide)]
  by_cases h2 : tx.size = 0
  · exact .inl ⟨by omega, h2, by rw [if_pos (txt_nil.2 h2)]⟩
  refine .inr ?_
  rw [if_neg fun q => h2 (txt_nil.1 q), hsl]
  obtain ⟨a, rfl⟩ := Int.eq_ofNat_of_zero_le ha.1
  have eN : ((a : Int) + (tx.size : Int)).toNat = a + tx.size := by omega
  rw [Int.toNat_natCast, eN]
  have hR := dready_ok h.mp (show (1 : Int) ≠ 2 by decide) (a := a) (ma := tx.size) (by omega)
  by_cases h3 : gb - (cnt (mbits img [] 480) gb.toNat : Nat) < needT f c (a / 64) (endP (a + tx.size) - a / 64)
  · refine .inl ⟨by omega, by omega, h3, need_of (by omega) ?_⟩
    rw [if_pos h3] at hR
    refine bind_of hR ?_
    rw [if_neg (by decide)]
  refine .inr ⟨by omega, by omega, h3, ?_⟩
  rw [if_neg h3] at hR
  obtain ⟨m, f', c', w1, w2⟩ := dwriteP_ok h.mp (a := a) (ls := strNums tx) (by omega) (by omega) (by omega) (nums_byte tx) (by rw [hsl]; omega)
  rw [hsl] at w1
  have hend : endP (a + tx.size) - endP (a + tx.size) = 0 := by omega
  have hcount := w2.count
  rw [hsl, hend, show needT f' c' (endP (a + tx.size)) 0 = 0 from rfl] at hcount
  have hhas : ∀ j, a / 64 ≤ j → j < endP (a + tx.size) → f' j ≠ 0 := by
    have := w2.has
    rw [hsl] at this
    exact this
  have hrest := w2.rest
  rw [hsl] at hrest
  have hbytes : ∀ i, i < 768 → dat img m gi f' i = if (a : Int) ≤ (i : Int) ∧ (i : Int) < (a : Int) + (tx.size : Int) then (strNums tx).getD (i - a) 0 else dat img [] gi f i := fun i hi => by
    rw [w2.bytes i hi, hsl]
    by_cases q : a ≤ i ∧ i < a + tx.size
    · rw [if_pos (by unfold endP; omega), if_pos (by omega)]
    · rw [if_neg fun x => q x.1, if_neg (by omega)]
  have tailOf : ∀ s : Int, sz ≤ s → (a : Int) + (tx.size : Int) ≤ s → ∀ k : Nat, k < 12 → f' k ≠ 0 → 64 * (k : Int) < s := fun s s1 s2 k hk q => by
    by_cases e : a / 64 ≤ k ∧ k < endP (a + tx.size)
    · unfold endP at e; omega
    · rw [hrest k (by omega)] at q
      have := h.tail k hk q
      omega
  have zeroOf : ∀ s : Int, sz ≤ s → (a : Int) + (tx.size : Int) ≤ s → ∀ i : Nat, i < 768 → s ≤ (i : Int) → dat img m gi f' i = 0 := fun s s1 s2 i hi q => by
    rw [hbytes i hi, if_neg (by omega)]
    exact h.zero i hi (by omega)
  by_cases h4 : (a : Int) + (tx.size : Int) > sz
  · -- the size grows
    have hp := place8_in (n := 2) h.mp.dk.may (by have := h.mp.nr; omega)
    have hklen := kl_len gi 2 c' f' (a / 64) (endP (a + tx.size) - a / 64)
    have hsub := w2.sub
    rw [hsl] at hsub
    obtain ⟨m2, v1, v2, v3, v4⟩ := w2.mp.dk.writeK hsub (by rw [hklen]; unfold endP; split <;> omega) (a := 491 + 16 * 2) (x := (a : Int) + (tx.size : Int)) (by omega) ((kl_base ..).node _ (by omega)) (by unfold U64; omega)
    have hM := w2.mp.size (s := (a : Int) + (tx.size : Int)) (by omega) rfl v2 v4
    have hd : ∀ i, i < 768 → dat img m2 gi f' i = dat img m gi f' i := fun i hi => dat_size w2.mp v4 hi
    refine ⟨m2, f', c', need_of (by omega) (bind_of hR ?_), ⟨?_, fun i hi => ?_, fun j j1 j2 => ?_, ?_⟩⟩
    · rw [if_pos rfl]
      refine need_of (by omega) (bind_of w1 (need_of (by omega) (bind_of rfl ?_)))
      have hmod : ((a : Int) + (tx.size : Int)) % 18446744073709551616 = (a : Int) + (tx.size : Int) := by omega
      simp only
      rw [if_pos trivial, hmod, h.mp.iget]
      simp only
      rw [decide_eq_true h4]
      unfold dWrite_J2
      rw [if_pos rfl, hp]
      refine bind_of rfl (need_of (by omega) ?_)
      simp only
      rw [show (280 + 208 * 1 + 16 * 2 + 3 : Int) = 491 + 16 * 2 by omega, v1]
      rfl
    · rw [hsl, if_pos h4]
      exact ⟨hM, by omega, tailOf _ (by omega) (by omega), fun i hi q => by rw [hd i hi]; exact zeroOf _ (by omega) (by omega) i hi q⟩
    · rw [hd i hi, hbytes i hi, hsl, Int.toNat_natCast]
    · rw [hsl, eN] at j2
      rw [Int.toNat_natCast] at j1
      exact hhas j j1 j2
    · rw [hsl, eN, Int.toNat_natCast]
      have e : cnt (mbits img m2 480) gb.toNat = cnt (mbits img m 480) gb.toNat := cnt_congr fun j hj => mbits_congr (by rw [v4, if_neg (by omega)])
      rw [e]
      omega
  · refine ⟨m, f', c', need_of (by omega) (bind_of hR ?_), ⟨?_, fun i hi => ?_, fun j j1 j2 => ?_, ?_⟩⟩
    · rw [if_pos rfl]
      refine need_of (by omega) (bind_of w1 (need_of (by omega) (bind_of rfl ?_)))
      have hmod : ((a : Int) + (tx.size : Int)) % 18446744073709551616 = (a : Int) + (tx.size : Int) := by omega
      simp only
      rw [if_pos trivial, hmod, h.mp.iget]
      simp only
      rw [decide_eq_false h4]
      unfold dWrite_J2
      rw [if_neg (by decide)]
    · rw [hsl, if_neg h4]
      exact ⟨w2.mp, hs0, tailOf _ (by omega) (by omega), zeroOf _ (by omega) (by omega)⟩
    · rw [hbytes i hi, hsl, Int.toNat_natCast]
    · rw [hsl, eN] at j2
      rw [Int.toNat_natCast] at j1
      exact hhas j j1 j2
    · rw [hsl, eN, Int.toNat_natCast]
      omega
end
end Go.Proofs.YtmmclabkkigiaaaDoor

namespace Go.Proofs.YtmmclabkkigiaaaDoor
open Go Go.RowKit
set_option linter.unusedVariables false
set_option linter.unusedSimpArgs false
section
variable {gi gb : Int} {img : List Int} {l : List (Int × Int)} {sz : Int} {f : Nat → Int} {c : Int}
theorem Fi.setSize {m : List (Int × Int)} {f' : Nat → Int} {c' : Int} (hp : Mp gi gb img m 2 (fun _ => False) ⟨1, 0, 0, sz, 0⟩ f' c') (hl : m.length < 96) {s : Int} (hs : 0 ≤ s ∧ s ≤ 768) (ht : ∀ k : Nat, k < 12 → f' k ≠ 0 → 64 * (k : Int) < s) (hz : ∀ i : Nat, i < 768 → s ≤ (i : Int) → dat img m gi f' i = 0) :
    ∃ m2, dResize_J1 img 1 gi gb 2 s m = some (0, m2) ∧ Fi gi gb img m2 s f' c' ∧ ∀ i : Nat, i < 768 → dat img m2 gi f' i = dat img m gi f' i := by
  have hg := hp.dk.g
  have hlen := hp.dk.len
  have hnr := hp.nr
  have h8 := place8_in (n := 2) hp.dk.may (by omega)
  obtain ⟨m2, v1, v2, _, v4⟩ := hp.dk.write (a := 491 + 16 * 2) (x := s) (by omega) (by unfold U64; omega) hl
  have hM := hp.size (s := s) (by omega) rfl v2 v4
  have hd : ∀ i, i < 768 → dat img m2 gi f' i = dat img m gi f' i := fun i hi => dat_size hp v4 hi
  refine ⟨m2, ?_, ⟨hM, hs.1, ht, fun i hi q => by rw [hd i hi]; exact hz i hi q⟩, hd⟩
  unfold dResize_J1
  rw [h8]
  refine bind_of rfl (need_of (by omega) ?_)
  rw [show (280 + 208 * 1 + 16 * 2 + 3 : Int) = 491 + 16 * 2 by omega, v1]
  rfl
theorem Fi.shrink (h : Fi gi gb img [] sz f c) {s : Nat} (hs : (s : Int) < sz) :
    ∃ m f' c', dshrink_M img [] 1 gi gb 2 (s : Int) = some (0, m) ∧ m.length < 96 ∧ Mp gi gb img m 2 (fun _ => False) ⟨1, 0, 0, sz, 0⟩ f' c' ∧ (∀ k : Nat, k < 12 → f' k ≠ 0 → 64 * (k : Int) < (s : Int)) ∧ ∀ i : Nat, i < 768 → dat img m gi f' i = if i < s then dat img [] gi f i else 0 := by
  have hsz := h.le
  have hg := h.mp.dk.g
  have hlen := h.mp.dk.len
  obtain ⟨m, c', a1, a2, a3, _, a5⟩ := h.mp.cut (a := endP s) (by unfold endP; omega) (by simp)
  simp only [List.length_nil, Nat.zero_add] at a2
  have hend : ((s : Int) + 64 - 1) / 64 = ((endP s : Nat) : Int) := by unfold endP; omega
  have hcut : ∀ k : Nat, k < 12 → cutF f (endP s) 12 k ≠ 0 → 64 * (k : Int) < (s : Int) := fun k hk q => by
    unfold cutF at q
    split at q
    · exact absurd rfl q
    · unfold endP at *; omega
  have hdat : ∀ i : Nat, i < 768 → dat img m gi (cutF f (endP s) 12) i = if i / 64 < endP s then dat img [] gi f i else 0 := fun i hi => by
    unfold dat
    by_cases e : i / 64 < endP s
    · have ec : cutF f (endP s) 12 (i / 64) = f (i / 64) := by unfold cutF; rw [if_neg (by omega)]
      rw [ec, if_pos e]
      split
      · rfl
      · rename_i e0
        have hr := h.mp.rf (i / 64) (by omega)
        refine bt_eq (a5 _ (.inr (.inr ⟨by omega, fun hc => ?_⟩)))
        have := h.mp.fc (i / 64) (by omega) hc
        omega
    · have ec : cutF f (endP s) 12 (i / 64) = 0 := by unfold cutF; rw [if_pos (by omega)]
      rw [ec, if_pos rfl, if_neg e]
  unfold dshrink_M
  have plain : (∀ i : Nat, i < 768 → s ≤ i → i / 64 < endP s → dat img [] gi f i = 0) → m.length < 96 ∧ Mp gi gb img m 2 (fun _ => False) ⟨1, 0, 0, sz, 0⟩ (cutF f (endP s) 12) c' ∧ (∀ k : Nat, k < 12 → cutF f (endP s) 12 k ≠ 0 → 64 * (k : Int) < (s : Int)) ∧ ∀ i : Nat, i < 768 → dat img m gi (cutF f (endP s) 12) i = if i < s then dat img [] gi f i else 0 := fun hz => by
    refine ⟨by omega, a3, hcut, fun i hi => ?_⟩
    rw [hdat i hi]
    by_cases e : i < s
    · rw [if_pos e, if_pos (by unfold endP; omega)]
    · rw [if_neg e]
      by_cases q : i / 64 < endP s
      · rw [if_pos q]; exact hz i hi (by omega) q
      · rw [if_neg q]
  by_cases hr : (s : Int) % 64 = 0
  · refine ⟨m, cutF f (endP s) 12, c', ?_, plain fun i hi h1 h2 => by unfold endP at h2; omega⟩
    refine need_of (by omega) (need_of (by omega) (need_of (by omega) (need_of (by omega) ?_)))
    rw [hend]
    refine bind_of a1 ?_
    simp only
    rw [if_pos trivial]
    refine need_of (by omega) ?_
    rw [if_pos hr]
  have hk : s / 64 < 12 := by omega
  have ec : cutF f (endP s) 12 (s / 64) = f (s / 64) := by unfold cutF endP; rw [if_neg (by omega)]
  have hat := a3.at hk
  rw [ec] at hat
  by_cases hb : f (s / 64) = 0
  · refine ⟨m, cutF f (endP s) 12, c', ?_, plain fun i hi h1 h2 => ?_⟩
    · refine need_of (by omega) (need_of (by omega) (need_of (by omega) (need_of (by omega) ?_)))
      rw [hend]
      refine bind_of a1 ?_
      simp only
      rw [if_pos trivial]
      refine need_of (by omega) ?_
      rw [if_neg hr]
      refine need_of (by omega) (need_of (by omega) ?_)
      rw [show (s : Int) / 64 = ((s / 64 : Nat) : Int) by omega]
      refine bind_of hat ?_
      simp only
      rw [if_pos trivial, if_pos hb]
    · unfold endP at h2
      unfold dat
      rw [show i / 64 = s / 64 by omega, if_pos hb]
  -- the last place's rest
  have hrb := h.mp.rf (s / 64) hk
  have hzl : (List.replicate (64 - (s : Int) % 64).toNat (0 : Int)).length = 64 - s % 64 := by rw [List.length_replicate]; omega
  have hzg : ∀ j, (List.replicate (64 - (s : Int) % 64).toNat (0 : Int)).getD j 0 = 0 := fun j => by
    rw [List.getD_eq_getElem?_getD, List.getElem?_replicate]
    split <;> rfl
  obtain ⟨m2, d1, d2⟩ := dput_ok (K := m.map (·.1) ++ blkL gi (f (s / 64))) (f := s % 64) (bs := List.replicate (64 - (s : Int) % 64).toNat (0 : Int)) (B := 488 + 16 * gi + 8 * f (s / 64)) a3.dk (fun p hp => List.mem_append.2 (.inl (List.mem_map.2 ⟨p, hp, rfl⟩)))
    (by rw [List.length_append, List.length_map, show (blkL gi (f (s / 64))).length = 8 from rfl]; omega) (by omega) (fun z hz => List.mem_append.2 (.inr (mem_blk.2 hz))) (by rw [hzl]; omega) (fun j => by rw [hzg]; omega)
  have hl2 := keys_le d2.dk.ok d2.sub
  rw [List.length_append, List.length_map, show (blkL gi (f (s / 64))).length = 8 from rfl] at hl2
  have hne : cutF f (endP s) 12 (s / 64) ≠ 0 := by rw [ec]; exact hb
  have d3 : PutR gi gb img m (m.map (·.1) ++ blkL gi (f (s / 64))) (488 + 16 * gi + 8 * cutF f (endP s) 12 (s / 64)) (s % 64) (List.replicate (64 - (s : Int) % 64).toNat (0 : Int)) m2 := by rw [ec]; exact d2
  refine ⟨m2, cutF f (endP s) 12, c', ?_, by omega, a3.data d2.dk hk hne (fun z hz => d3.out z hz), hcut, fun i hi => ?_⟩
  · refine need_of (by omega) (need_of (by omega) (need_of (by omega) (need_of (by omega) ?_)))
    rw [hend]
    refine bind_of a1 ?_
    simp only
    rw [if_pos trivial]
    refine need_of (by omega) ?_
    rw [if_neg hr]
    refine need_of (by omega) (need_of (by omega) ?_)
    rw [show (s : Int) / 64 = ((s / 64 : Nat) : Int) by omega]
    refine bind_of hat ?_
    simp only
    rw [if_pos trivial, if_neg hb]
    refine need_of (by omega) (need_of (by omega) ?_)
    rw [place9_in a3.dk.may (by omega)]
    rw [show ((s % 64 : Nat) : Int) = (s : Int) % 64 by omega] at d1
    exact bind_of d1 rfl
  · rw [d3.dat a3 hk hne hi, hzl, hzg, hdat i hi]
    unfold endP
    by_cases e : i < s
    · rw [if_pos e, if_neg (by omega), if_pos (by omega)]
    · rw [if_neg e]
      by_cases q : i / 64 = s / 64
      · rw [if_pos (by omega)]
      · rw [if_neg (by omega), if_neg (by omega)]
theorem Fi.resize (h : Fi gi gb img [] sz f c) {s : Int} (hs : U64 s) :
    (s > 768 ∧ dResize_M img [] 1 gi gb 2 s = some (8, [])) ∨
    (s ≤ 768 ∧ ∃ m f' c', dResize_M img [] 1 gi gb 2 s = some (0, m) ∧ Fi gi gb img m s f' c' ∧ ∀ i : Nat, i < 768 → dat img m gi f' i = if (i : Int) < s then dat img [] gi f i else 0) := by
  unfold U64 at hs
  have hsz := h.le
  unfold dResize_M
  rw [h.mp.iget]
  simp only [if_true]
  rw [if_neg (by decide)]
  by_cases h1 : s > 768
  · exact .inl ⟨h1, by rw [if_pos h1]⟩
  refine .inr ⟨by omega, ?_⟩
  rw [if_neg h1]
  by_cases h2 : s < sz
  · rw [if_pos h2]
    obtain ⟨a, rfl⟩ := Int.eq_ofNat_of_zero_le hs.1
    obtain ⟨m, f', c', s1, s2, s3, s4, s5⟩ := h.shrink (s := a) h2
    obtain ⟨m2, r1, r2, r3⟩ := Fi.setSize s3 s2 (s := (a : Int)) (by omega) s4 fun i hi q => by rw [s5 i hi, if_neg (by omega)]
    refine ⟨m2, f', c', need_of (by omega) (bind_of s1 ?_), r2, fun i hi => ?_⟩
    · rw [if_pos rfl]; exact r1
    · rw [r3 i hi, s5 i hi]
      by_cases e : i < a
      · rw [if_pos e, if_pos (by omega)]
      · rw [if_neg e, if_neg (by omega)]
  · rw [if_neg h2]
    obtain ⟨m2, r1, r2, r3⟩ := Fi.setSize h.mp (by simp) (s := s) (by omega) (fun k hk q => by have := h.tail k hk q; omega) fun i hi q => h.zero i hi (by omega)
    refine ⟨m2, f, c, r1, r2, fun i hi => ?_⟩
    rw [r3 i hi]
    by_cases e : (i : Int) < s
    · rw [if_pos e]
    · rw [if_neg e]; exact h.zero i hi (by omega)
end
end Go.Proofs.YtmmclabkkigiaaaDoor

set_option linter.unusedVariables false
set_option maxRecDepth 20000
set_option maxHeartbeats 2000000
namespace Go.Proofs.YtmmclabkkigiaaaDoor
open Go Go.RowKit
set_option linter.unusedSimpArgs false
set_option linter.unusedVariables false

def file14_M (b_ : Int) : Option (List Int) :=
 need ((0 : Int) ≤ 1 ∧ (1 : Int) ≤ 255) <|
need ((0 : Int) ≤ b_ ∧ (b_ : Int) ≤ 255) <|
(some (placeOf 8 1 (2 + 1 % 20) (2 + b_ % 60) 2)).bind fun r24 =>
need (0 ≤ r24 ∧ r24 < (((fmtW 1 (2 + 1 % 20) (2 + b_ % 60)).length) : Int)) <|
need (0 ≤ (placeOf 6 1 (2 + 1 % 20) (2 + b_ % 60) 0) ∧ (placeOf 6 1 (2 + 1 % 20) (2 + b_ % 60) 0) < (((fmtW 1 (2 + 1 % 20) (2 + b_ % 60)).length) : Int)) <|
need ((placeOf 6 1 (2 + 1 % 20) (2 + b_ % 60) 0).toNat < ((fmtW 1 (2 + 1 % 20) (2 + b_ % 60)).set r24.toNat 1).length) <|
need (0 ≤ (placeOf 6 1 (2 + 1 % 20) (2 + b_ % 60) 0) ∧ (placeOf 6 1 (2 + 1 % 20) (2 + b_ % 60) 0) < (((fmtW 1 (2 + 1 % 20) (2 + b_ % 60)).length) : Int)) <|
need ((placeOf 6 1 (2 + 1 % 20) (2 + b_ % 60) 0).toNat < ((fmtW 1 (2 + 1 % 20) (2 + b_ % 60)).set r24.toNat 1).length) <|
need ((fmtW 1 (2 + 1 % 20) (2 + b_ % 60)).length = (((fmtW 1 (2 + 1 % 20) (2 + b_ % 60)).set r24.toNat 1).set ((placeOf 6 1 (2 + 1 % 20) (2 + b_ % 60) 0).toNat) (bits .or .u64 (((fmtW 1 (2 + 1 % 20) (2 + b_ % 60)).set r24.toNat 1).getD ((placeOf 6 1 (2 + 1 % 20) (2 + b_ % 60) 0).toNat) 0) 4)).length) <|
some (((fmtW 1 (2 + 1 % 20) (2 + b_ % 60)).set r24.toNat 1).set ((placeOf 6 1 (2 + 1 % 20) (2 + b_ % 60) 0).toNat) (bits .or .u64 (((fmtW 1 (2 + 1 % 20) (2 + b_ % 60)).set r24.toNat 1).getD ((placeOf 6 1 (2 + 1 % 20) (2 + b_ % 60) 0).toNat) 0) 4))

theorem file14_walk {b_ : Int}  {r : List Int} (B : Nat) (w : World) (hm : file14_M b_ = some r) : Spec Tryd.prog 32 #[(.int .u8 b_)] B w [] (fun v H' => ∃ a' c', v = .tuple #[(.agg #[(.int .i64 1), (.int .i64 (2 + 1 % 20)), (.int .i64 (2 + b_ % 60))]), .slice a' r.length c'] ∧ H' = [kU64.row a' c' r]) := by
 refine spec_Q Tryd.func32 rfl fun hs => ?_
 unfold file14_M at hm
 refine W.sr fun K1 hK1 => ?_
 refine zN [(.int .i64 0), (.int .i64 0), (.int .i64 0)] 23 hs fun b4 w2 hs3 => ?_
 refine zE 1 (hK1 _ _ ?_)
 refine W.sr fun K5 hK5 => ?_
 refine zR 1 ?_
 obtain ⟨h6, hm⟩ := need_some hm
 obtain ⟨h7, hm⟩ := need_some hm
 refine zC00 hs3 (small_spec (x_ := 1) (y_ := b_) (hx := h6) (hy := h7) B _) fun w8 hs10 => ?_
 refine zN [(.int .i64 0), (.int .i64 0), (.int .i64 0)] 23 hs10 fun b13 w11 hs12 => ?_
 refine ops_store (off := 0) (cs := [(.int .i64 0), (.int .i64 0), (.int .i64 0)]) (vs := [(.int .i64 1), (.int .i64 (2 + 1 % 20)), (.int .i64 (2 + b_ % 60))]) hs12 (by kernel_rfl) (by simp) rfl (fun w14 hs15 => ?_)
 have hs16 : St B w [] w14 [blk b13 (.cells [(.int .i64 1), (.int .i64 (2 + 1 % 20)), (.int .i64 (2 + b_ % 60))].toArray 23 (0, 0)), blk b4 (.cells [(.int .i64 0), (.int .i64 0), (.int .i64 0)].toArray 23 (0, 0))] := hs15
 refine zD (hK5 _ _ ?_)
 refine W.sr fun K17 hK17 => ?_
 refine ops_R (runs_loadAgg (ad := ⟨b13, 0, none⟩) (cs := [(.int .i64 1), (.int .i64 (2 + 1 % 20)), (.int .i64 (2 + b_ % 60))]) (by kernel_rfl) (cells_sub (hs16.heapAt 0 rfl) rfl)) ?_
 refine ops_call0 hs16 (by kernel_rfl) (format_spec (gw := 1) (gi := (2 + 1 % 20)) (gb := (2 + b_ % 60)) B _) ?_
 rintro _ _ w20 ⟨a18, c19, rfl, rfl⟩ hs21
 have hs22 := St.ap1 hs21
 refine zE 1 (hK17 _ _ ?_)
 refine W.sr fun K23 hK23 => ?_
 refine zR 1 ?_
 refine ops_R (runs_loadAgg (ad := ⟨b13, 0, none⟩) (cs := [(.int .i64 1), (.int .i64 (2 + 1 % 20)), (.int .i64 (2 + b_ % 60))]) (by kernel_rfl) (cells_sub (hs22.heapAt 1 rfl) rfl)) ?_
 obtain ⟨r24, h25, hm⟩ := bind_some hm
 replace h25 := some_inj h25
 refine ops_call0 hs22 (by kernel_rfl) (rinodeat_spec (gw := 1) (gi := (2 + 1 % 20)) (gb := (2 + b_ % 60)) (n_ := 2) B _) ?_
 rintro _ _ w26 ⟨hv28, hH29⟩ hs27
 rw [h25] at hv28
 try rw [h25] at hH29
 subst hv28 hH29
 have hs30 := St.ap0 hs27
 obtain ⟨h32, hm⟩ := need_some hm
 have hk31 := lt_toNat h32
 refine ops_R (runs_index (a := a18) (n := (fmtW 1 (2 + 1 % 20) (2 + b_ % 60)).length) (z := r24) (size := 1) r24.toNat (nat_of h32.1) hk31 (kU64.addr (St.kcells kU64 hs30 0 rfl) hk31) (by kernel_rfl)) ?_
 refine ops_storeK kU64 (j := 0) (vs := [(.int .u64 1)]) 0 1 hs30 hk31 (Nat.le_of_ble_eq_true rfl) (by simp) rfl rfl (by kernel_rfl) (fun w33 hs34 => ?_)
 refine zD (hK23 _ _ ?_)
 refine W.sr fun K36 hK36 => ?_
 refine zR 1 ?_
 refine ops_R (runs_loadAgg (ad := ⟨b13, 0, none⟩) (cs := [(.int .i64 1), (.int .i64 (2 + 1 % 20)), (.int .i64 (2 + b_ % 60))]) (by kernel_rfl) (cells_sub (hs34.heapAt 1 rfl) rfl)) ?_
 refine zC00 hs34 (rmapat_spec (gw := 1) (gi := (2 + 1 % 20)) (gb := (2 + b_ % 60)) B _) fun w37 hs39 => ?_
 obtain ⟨h41, hm⟩ := need_some hm
 have hk40 := lt_toNat h41
 obtain ⟨h43, hm⟩ := need_some hm
 have hk42 := h43
 refine ops_R (runs_index (a := a18) (n := (fmtW 1 (2 + 1 % 20) (2 + b_ % 60)).length) (z := (placeOf 6 1 (2 + 1 % 20) (2 + b_ % 60) 0)) (size := 1) ((placeOf 6 1 (2 + 1 % 20) (2 + b_ % 60) 0).toNat) (nat_of h41.1) hk40 (kU64.addr (St.kcells kU64 hs39 0 rfl) hk42) (by kernel_rfl)) ?_
 refine zL ((adr a18 (((placeOf 6 1 (2 + 1 % 20) (2 + b_ % 60) 0).toNat) * 1)).add 0) (.int .u64 (((fmtW 1 (2 + 1 % 20) (2 + b_ % 60)).set r24.toNat 1).getD ((placeOf 6 1 (2 + 1 % 20) (2 + b_ % 60) 0).toNat) 0)) (kU64.at (St.kcells kU64 hs39 0 rfl) hk42 0 0 rfl) ?_
 refine zR 1 ?_
 obtain ⟨h45, hm⟩ := need_some hm
 have hk44 := lt_toNat h45
 obtain ⟨h47, hm⟩ := need_some hm
 have hk46 := h47
 refine ops_R (runs_index (a := a18) (n := (fmtW 1 (2 + 1 % 20) (2 + b_ % 60)).length) (z := (placeOf 6 1 (2 + 1 % 20) (2 + b_ % 60) 0)) (size := 1) ((placeOf 6 1 (2 + 1 % 20) (2 + b_ % 60) 0).toNat) (nat_of h45.1) hk44 (kU64.addr (St.kcells kU64 hs39 0 rfl) hk46) (by kernel_rfl)) ?_
 refine ops_storeK kU64 (j := 0) (vs := [(.int .u64 (bits .or .u64 (((fmtW 1 (2 + 1 % 20) (2 + b_ % 60)).set r24.toNat 1).getD ((placeOf 6 1 (2 + 1 % 20) (2 + b_ % 60) 0).toNat) 0) 4))]) 0 (bits .or .u64 (((fmtW 1 (2 + 1 % 20) (2 + b_ % 60)).set r24.toNat 1).getD ((placeOf 6 1 (2 + 1 % 20) (2 + b_ % 60) 0).toNat) 0) 4) hs39 hk46 (Nat.le_of_ble_eq_true rfl) (by simp) rfl rfl (by kernel_rfl) (fun w48 hs49 => ?_)
 refine zD (hK36 _ _ ?_)
 refine W.sr fun K51 hK51 => ?_
 refine ops_R (runs_loadAgg (ad := ⟨b13, 0, none⟩) (cs := [(.int .i64 1), (.int .i64 (2 + 1 % 20)), (.int .i64 (2 + b_ % 60))]) (by kernel_rfl) (cells_sub (hs49.heapAt 1 rfl) rfl)) ?_
 refine zR 1 ?_
 have hs54 := St.f2 hs49
 refine ops_store (off := 0) (cs := [(.int .i64 0), (.int .i64 0), (.int .i64 0)]) (vs := [(.int .i64 1), (.int .i64 (2 + 1 % 20)), (.int .i64 (2 + b_ % 60))]) hs54 (by kernel_rfl) (by simp) rfl (fun w52 hs53 => ?_)
 have hs55 : St B w [] w52 [blk b4 (.cells [(.int .i64 1), (.int .i64 (2 + 1 % 20)), (.int .i64 (2 + b_ % 60))].toArray 23 (0, 0)), kU64.row a18 c19 (((fmtW 1 (2 + 1 % 20) (2 + b_ % 60)).set r24.toNat 1).set ((placeOf 6 1 (2 + 1 % 20) (2 + b_ % 60) 0).toNat) (bits .or .u64 (((fmtW 1 (2 + 1 % 20) (2 + b_ % 60)).set r24.toNat 1).getD ((placeOf 6 1 (2 + 1 % 20) (2 + b_ % 60) 0).toNat) 0) 4)), blk b13 (.cells [(.int .i64 1), (.int .i64 (2 + 1 % 20)), (.int .i64 (2 + b_ % 60))].toArray 23 (0, 0))] := hs53
 refine zE 1 (hK51 _ _ ?_)
 refine W.ret ?_
 obtain ⟨h56, hm⟩ := need_some hm
 obtain rfl := some_inj hm
 have hs57 := St.f1 hs55
 have hs58 := St.tk1 hs57
 refine ret_of (.tuple #[(.agg #[(.int .i64 1), (.int .i64 (2 + 1 % 20)), (.int .i64 (2 + b_ % 60))]), (.slice a18 ((fmtW 1 (2 + 1 % 20) (2 + b_ % 60)).length) c19)]) (resS_of (by kernel_rfl) (resD_two rfl (.agg (ad := ⟨b4, 0, none⟩) (cs := [(.int .i64 1), (.int .i64 (2 + 1 % 20)), (.int .i64 (2 + b_ % 60))]) (by kernel_rfl) (by kernel_rfl) (cells_sub (hs55.heapAt 0 rfl) rfl)) (.tmp (by kernel_rfl)))) ⟨_, ⟨a18, c19, (congrArg (fun n_ => Value.tuple #[(.agg #[(.int .i64 1), (.int .i64 (2 + 1 % 20)), (.int .i64 (2 + b_ % 60))]), .slice a18 n_ c19]) h56), rfl⟩, hs58⟩

end Go.Proofs.YtmmclabkkigiaaaDoor

namespace Go.Proofs.YtmmclabkkigiaaaDoor
open Go Go.RowKit
set_option linter.unusedSimpArgs false
set_option linter.unusedVariables false

structure TSt14 where
  c0 : Int
  c1 : Int
  c2 : Int
  c3 : Int
  c4 : ByteArray
  c5 : Bool

def dSt14 : TSt14 := (⟨0, 0, 0, 0, .empty, false⟩ : TSt14)
def kSt14 : Kind TSt14 := ⟨75, 6, fun x => [.int .u8 x.c0, .int .i64 x.c1, .int .u64 x.c2, .int .u64 x.c3, .string x.c4, .bool x.c5], by decide, fun _ => rfl, fun _ => rfl⟩
def good_St14 (x : TSt14) : Prop := (0 ≤ x.c0 ∧ x.c0 ≤ 255) ∧ (-9223372036854775808 ≤ x.c1 ∧ x.c1 ≤ 9223372036854775807) ∧ (0 ≤ x.c2 ∧ x.c2 ≤ 18446744073709551615) ∧ (0 ≤ x.c3 ∧ x.c3 ≤ 18446744073709551615)

end Go.Proofs.YtmmclabkkigiaaaDoor

set_option linter.unusedVariables false
set_option maxRecDepth 20000
namespace Go.Proofs.YtmmclabkkigiaaaDoor
open Go Go.RowKit
set_option linter.unusedSimpArgs false
set_option linter.unusedVariables false

def great14_B0 (ss : List TSt14) (k9 : Int → Option (Bool)) (p8 : Int) : Option (Bool) :=
 if p8 < (ss.length : Int) then (need (0 ≤ p8 ∧ p8 < (ss.length : Int)) <|
if (((ss.getD p8.toNat dSt14).c4).size : Int) > 2000 then (some true) else (need (-9223372036854775808 ≤ (p8 + 1) ∧ (p8 + 1) ≤ 9223372036854775807) <|
k9 (p8 + 1))) else (some false)

def great14_M (ss : List TSt14) : Option (Bool) :=
 if (ss.length : Int) > 30 then (some true) else (iter (fun k_ s_ => great14_B0 ss k_ s_) FUEL 0)

theorem great14_walk {ss : List TSt14} {sa : Option Addr} {sc : Nat} {r : Bool} (B : Nat) (w : World) (hst : CellsAt sa (kSt14.cells ss) w) (hm : great14_M ss = some r) : Spec Tryd.prog 38 #[(.slice sa ss.length sc)] B w [] (fun v H' => v = .bool r ∧ H' = []) := by
 refine spec_Q Tryd.func38 rfl fun hs => ?_
 unfold great14_M at hm
 refine W.sr fun K1 hK1 => ?_
 refine zE 1 (hK1 _ _ ?_)
 refine W.seq fun K2 hK2 => ?_
 refine W.sr fun K3 hK3 => ?_
 refine zE 3 (hK3 _ _ ?_)
 refine W.cond (decide ((ss.length : Int) > 30)) (by kernel_rfl) (fun h4 => ?_) (fun h4 => ?_)
 ·
  obtain ⟨h4p, hm⟩ := iY hm h4
  refine W.sr fun K5 hK5 => ?_
  refine zE 1 (hK5 _ _ ?_)
  refine W.ret (ret_seq ?_)
  obtain rfl := some_inj hm
  refine ret_of (.bool true) (by kernel_rfl) ⟨_, ⟨rfl, rfl⟩, hs⟩
 ·
  obtain ⟨h4p, hm⟩ := iN hm h4
  refine W.skip ?_
  refine hK2 _ _ ?_
  refine W.seq fun K6 hK6 => ?_
  refine W.sr fun K7 hK7 => ?_
  refine zE 1 (hK7 _ _ ?_)
  refine W.block ?_
  refine W.loop_iter (G := Int) (σ := Int) (fun | p8 => p8) (fun | p8, s_, w_ => (∃ us, s_ = slots 20 [(0, (.slice sa ss.length sc)), (3, (.int .i64 p8))] us) ∧ St B w [] w_ []) 0 ⟨slots_intro _ (by kernel_rfl), hs⟩ hm ?_
  rintro k9 ih10 p8 _ w11 ⟨⟨us, rfl⟩, hs12⟩ hm
  replace hm : great14_B0 ss k9 p8 = some r := hm
  unfold great14_B0 at hm
  refine W.seq fun K13 hK13 => ?_
  refine W.sr fun K14 hK14 => ?_
  refine zE 4 (hK14 _ _ ?_)
  refine W.cond (decide (p8 < (ss.length : Int))) (by kernel_rfl) (fun h15 => ?_) (fun h15 => ?_)
  ·
   obtain ⟨h15p, hm⟩ := iY hm h15
   refine W.skip ?_
   refine hK13 _ _ ?_
   refine W.seq fun K16 hK16 => ?_
   refine W.block ?_
   refine W.sr fun K17 hK17 => ?_
   refine zR 2 ?_
   obtain ⟨h19, hm⟩ := need_some hm
   have hk18 := lt_toNat h19
   refine ops_R (runs_index (a := sa) (n := ss.length) (z := p8) (size := 6) p8.toNat (nat_of h19.1) hk18 (kSt14.addr (hs12.oldCells hst) hk18) (by kernel_rfl)) ?_
   refine zR 1 ?_
   refine zL ((adr sa (p8.toNat * 6)).add 4) (.string ((ss.getD p8.toNat dSt14).c4)) (kSt14.at (hs12.oldCells hst) hk18 dSt14 4 rfl) ?_
   refine zE 2 (hK17 _ _ ?_)
   refine W.cond (decide ((((ss.getD p8.toNat dSt14).c4).size : Int) > 2000)) (by kernel_rfl) (fun h20 => ?_) (fun h20 => ?_)
   ·
    obtain ⟨h20p, hm⟩ := iY hm h20
    refine W.sr fun K21 hK21 => ?_
    refine zE 1 (hK21 _ _ ?_)
    refine W.ret (ret_block (ret_seq (ret_seq (ret_block (ret_seq ?_)))))
    obtain rfl := some_inj hm
    refine ret_of (.bool true) (by kernel_rfl) ⟨_, ⟨rfl, rfl⟩, hs12⟩
   ·
    obtain ⟨h20p, hm⟩ := iN hm h20
    refine W.skip ?_
    refine normal_block ?_
    refine hK16 _ _ ?_
    refine W.region ?_
    refine zR 1 ?_
    obtain ⟨h22, hm⟩ := need_some hm
    refine zI _ (wrap_i64 h22.1 h22.2) ?_
    refine zE 1 ?_
    refine loopAt_next ?_
    exact ih10 (p8 + 1) _ _ ⟨slots_intro _ (by kernel_rfl), hs12⟩ hm
  ·
   obtain ⟨h15p, hm⟩ := iN hm h15
   refine W.exit (exit_seq (exit_seq (exit_here ?_)))
   refine hK6 _ _ ?_
   refine W.sr fun K23 hK23 => ?_
   refine zE 1 (hK23 _ _ ?_)
   refine W.ret ?_
   obtain rfl := some_inj hm
   refine ret_of (.bool false) (by kernel_rfl) ⟨_, ⟨rfl, rfl⟩, hs12⟩

end Go.Proofs.YtmmclabkkigiaaaDoor

set_option maxRecDepth 20000
namespace Go.Proofs.YtmmclabkkigiaaaDoor
open Go Go.RowKit
set_option linter.unusedSimpArgs false
set_option linter.unusedVariables false

theorem dRead_nil {gw gi gb n_ at_ x_ : Int} (B : Nat) (w : World) : Spec Tryd.prog 31 #[(.pointer none), (.agg #[(.int .i64 gw), (.int .i64 gi), (.int .i64 gb)]), (.int .i64 n_), (.int .u64 at_), (.int .u64 x_)] B w [] (fun v H' => v = (.tuple #[(.string ByteArray.empty), (.int .i64 2)]) ∧ H' = []) := by
 refine spec_Q Tryd.func31 rfl fun hs => ?_
 refine W.sr fun K1 hK1 => ?_
 refine zN [(.pointer none)] 30 hs fun b4 w2 hs3 => ?_
 refine zN [(.int .i64 gw), (.int .i64 gi), (.int .i64 gb)] 23 hs3 fun b7 w5 hs6 => ?_
 refine zE 2 (hK1 _ _ ?_)
 refine W.sr fun K8 hK8 => ?_
 refine zL ⟨b4, 0, none⟩ (.pointer none) (hs6.cellAt 1 rfl rfl) ?_
 refine ops_R (runs_loadAgg (ad := ⟨b7, 0, none⟩) (cs := [(.int .i64 gw), (.int .i64 gi), (.int .i64 gb)]) (by kernel_rfl) (cells_sub (hs6.heapAt 0 rfl) rfl)) ?_
 refine zR 1 ?_
 refine zC00 hs6 (dfile_nil (gw := gw) (gi := gi) (gb := gb) (n_ := n_) B _) fun w9 hs11 => ?_
 refine zR 4 ?_
 refine zN [(.int .u64 0), (.int .u64 0), (.int .u64 0), (.int .u64 0), (.int .u64 0), (.int .u64 0), (.int .u64 0), (.int .u64 0), (.int .u64 0), (.int .u64 0)] 78 hs11 fun b14 w12 hs13 => ?_
 refine zN [(.pointer none)] 24 hs13 fun b17 w15 hs16 => ?_
 have hs20 := St.f1 hs16
 refine ops_store (off := 0) (cs := [(.int .u64 0), (.int .u64 0), (.int .u64 0), (.int .u64 0), (.int .u64 0), (.int .u64 0), (.int .u64 0), (.int .u64 0), (.int .u64 0), (.int .u64 0)]) (vs := [(.int .u64 0), (.int .u64 0), (.int .u64 0), (.int .u64 0), (.int .u64 0), (.int .u64 0), (.int .u64 0), (.int .u64 0), (.int .u64 0), (.int .u64 0)]) hs20 (by kernel_rfl) (by simp) rfl (fun w18 hs19 => ?_)
 have hs21 : St B w [] w18 [blk b14 (.cells [(.int .u64 0), (.int .u64 0), (.int .u64 0), (.int .u64 0), (.int .u64 0), (.int .u64 0), (.int .u64 0), (.int .u64 0), (.int .u64 0), (.int .u64 0)].toArray 78 (0, 0)), blk b17 (.cells [(.pointer none)].toArray 24 (0, 0)), blk b7 (.cells [(.int .i64 gw), (.int .i64 gi), (.int .i64 gb)].toArray 23 (0, 0)), blk b4 (.cells [(.pointer none)].toArray 30 (0, 0))] := hs19
 have hs24 := St.f1 hs21
 refine ops_store (off := 0) (cs := [(.pointer none)]) (vs := [(.pointer none)]) hs24 (by kernel_rfl) (by simp) rfl (fun w22 hs23 => ?_)
 have hs25 : St B w [] w22 [blk b17 (.cells [(.pointer none)].toArray 24 (0, 0)), blk b14 (.cells [(.int .u64 0), (.int .u64 0), (.int .u64 0), (.int .u64 0), (.int .u64 0), (.int .u64 0), (.int .u64 0), (.int .u64 0), (.int .u64 0), (.int .u64 0)].toArray 78 (0, 0)), blk b7 (.cells [(.int .i64 gw), (.int .i64 gi), (.int .i64 gb)].toArray 23 (0, 0)), blk b4 (.cells [(.pointer none)].toArray 30 (0, 0))] := hs23
 refine zE 1 (hK8 _ _ ?_)
 refine W.seq fun K26 hK26 => ?_
 refine W.sr fun K27 hK27 => ?_
 refine zE 12 (hK27 _ _ ?_)
 refine W.cond_true true (by kernel_rfl) rfl ?_
 refine W.sr fun K28 hK28 => ?_
 refine zE 3 (hK28 _ _ ?_)
 refine W.ret (ret_seq ?_)
 have hs29 := St.tk0 hs25
 refine ret_of (.tuple #[(.string ByteArray.empty), (.int .i64 2)]) (by kernel_rfl) ⟨_, ⟨rfl, rfl⟩, hs29⟩

theorem dNeed_nil {gw gi gb n_ at_ x_ : Int} (B : Nat) (w : World) : Spec Tryd.prog 34 #[(.pointer none), (.agg #[(.int .i64 gw), (.int .i64 gi), (.int .i64 gb)]), (.int .i64 n_), (.int .u64 at_), (.int .i64 x_)] B w [] (fun v H' => v = (.int .i64 0) ∧ H' = []) := by
 refine spec_Q Tryd.func34 rfl fun hs => ?_
 refine W.sr fun K1 hK1 => ?_
 refine zN [(.int .i64 gw), (.int .i64 gi), (.int .i64 gb)] 23 hs fun b4 w2 hs3 => ?_
 refine zE 1 (hK1 _ _ ?_)
 refine W.sr fun K5 hK5 => ?_
 refine zR 1 ?_
 refine ops_R (runs_loadAgg (ad := ⟨b4, 0, none⟩) (cs := [(.int .i64 gw), (.int .i64 gi), (.int .i64 gb)]) (by kernel_rfl) (cells_sub (hs3.heapAt 0 rfl) rfl)) ?_
 refine zR 1 ?_
 refine zC00 hs3 (dfile_nil (gw := gw) (gi := gi) (gb := gb) (n_ := n_) B _) fun w6 hs8 => ?_
 refine zR 4 ?_
 refine zN [(.int .u64 0), (.int .u64 0), (.int .u64 0), (.int .u64 0), (.int .u64 0), (.int .u64 0), (.int .u64 0), (.int .u64 0), (.int .u64 0), (.int .u64 0)] 78 hs8 fun b11 w9 hs10 => ?_
 refine zN [(.pointer none)] 24 hs10 fun b14 w12 hs13 => ?_
 have hs17 := St.f1 hs13
 refine ops_store (off := 0) (cs := [(.int .u64 0), (.int .u64 0), (.int .u64 0), (.int .u64 0), (.int .u64 0), (.int .u64 0), (.int .u64 0), (.int .u64 0), (.int .u64 0), (.int .u64 0)]) (vs := [(.int .u64 0), (.int .u64 0), (.int .u64 0), (.int .u64 0), (.int .u64 0), (.int .u64 0), (.int .u64 0), (.int .u64 0), (.int .u64 0), (.int .u64 0)]) hs17 (by kernel_rfl) (by simp) rfl (fun w15 hs16 => ?_)
 have hs18 : St B w [] w15 [blk b11 (.cells [(.int .u64 0), (.int .u64 0), (.int .u64 0), (.int .u64 0), (.int .u64 0), (.int .u64 0), (.int .u64 0), (.int .u64 0), (.int .u64 0), (.int .u64 0)].toArray 78 (0, 0)), blk b14 (.cells [(.pointer none)].toArray 24 (0, 0)), blk b4 (.cells [(.int .i64 gw), (.int .i64 gi), (.int .i64 gb)].toArray 23 (0, 0))] := hs16
 have hs21 := St.f1 hs18
 refine ops_store (off := 0) (cs := [(.pointer none)]) (vs := [(.pointer none)]) hs21 (by kernel_rfl) (by simp) rfl (fun w19 hs20 => ?_)
 have hs22 : St B w [] w19 [blk b14 (.cells [(.pointer none)].toArray 24 (0, 0)), blk b11 (.cells [(.int .u64 0), (.int .u64 0), (.int .u64 0), (.int .u64 0), (.int .u64 0), (.int .u64 0), (.int .u64 0), (.int .u64 0), (.int .u64 0), (.int .u64 0)].toArray 78 (0, 0)), blk b4 (.cells [(.int .i64 gw), (.int .i64 gi), (.int .i64 gb)].toArray 23 (0, 0))] := hs20
 refine zE 1 (hK5 _ _ ?_)
 refine W.seq fun K23 hK23 => ?_
 refine W.sr fun K24 hK24 => ?_
 refine zE 17 (hK24 _ _ ?_)
 refine W.cond_true true (by kernel_rfl) rfl ?_
 refine W.sr fun K25 hK25 => ?_
 refine zE 1 (hK25 _ _ ?_)
 refine W.ret (ret_seq ?_)
 have hs26 := St.tk0 hs22
 refine ret_of (.int .i64 0) (by kernel_rfl) ⟨_, ⟨rfl, rfl⟩, hs26⟩

theorem dWrite_nil {gw gi gb n_ at_ : Int} {tx_ : ByteArray} (B : Nat) (w : World) : Spec Tryd.prog 33 #[(.pointer none), (.agg #[(.int .i64 gw), (.int .i64 gi), (.int .i64 gb)]), (.int .i64 n_), (.int .u64 at_), (.string tx_)] B w [] (fun v H' => v = (.int .i64 2) ∧ H' = []) := by
 refine spec_Q Tryd.func33 rfl fun hs => ?_
 refine W.sr fun K1 hK1 => ?_
 refine zN [(.pointer none)] 30 hs fun b4 w2 hs3 => ?_
 refine zN [(.int .i64 gw), (.int .i64 gi), (.int .i64 gb)] 23 hs3 fun b7 w5 hs6 => ?_
 refine zE 1 (hK1 _ _ ?_)
 refine W.sr fun K8 hK8 => ?_
 refine zL ⟨b4, 0, none⟩ (.pointer none) (hs6.cellAt 1 rfl rfl) ?_
 refine ops_R (runs_loadAgg (ad := ⟨b7, 0, none⟩) (cs := [(.int .i64 gw), (.int .i64 gi), (.int .i64 gb)]) (by kernel_rfl) (cells_sub (hs6.heapAt 0 rfl) rfl)) ?_
 refine zR 1 ?_
 refine zC00 hs6 (dfile_nil (gw := gw) (gi := gi) (gb := gb) (n_ := n_) B _) fun w9 hs11 => ?_
 refine zR 4 ?_
 refine zN [(.int .u64 0), (.int .u64 0), (.int .u64 0), (.int .u64 0), (.int .u64 0), (.int .u64 0), (.int .u64 0), (.int .u64 0), (.int .u64 0), (.int .u64 0)] 78 hs11 fun b14 w12 hs13 => ?_
 refine zN [(.pointer none)] 24 hs13 fun b17 w15 hs16 => ?_
 have hs20 := St.f1 hs16
 refine ops_store (off := 0) (cs := [(.int .u64 0), (.int .u64 0), (.int .u64 0), (.int .u64 0), (.int .u64 0), (.int .u64 0), (.int .u64 0), (.int .u64 0), (.int .u64 0), (.int .u64 0)]) (vs := [(.int .u64 0), (.int .u64 0), (.int .u64 0), (.int .u64 0), (.int .u64 0), (.int .u64 0), (.int .u64 0), (.int .u64 0), (.int .u64 0), (.int .u64 0)]) hs20 (by kernel_rfl) (by simp) rfl (fun w18 hs19 => ?_)
 have hs21 : St B w [] w18 [blk b14 (.cells [(.int .u64 0), (.int .u64 0), (.int .u64 0), (.int .u64 0), (.int .u64 0), (.int .u64 0), (.int .u64 0), (.int .u64 0), (.int .u64 0), (.int .u64 0)].toArray 78 (0, 0)), blk b17 (.cells [(.pointer none)].toArray 24 (0, 0)), blk b7 (.cells [(.int .i64 gw), (.int .i64 gi), (.int .i64 gb)].toArray 23 (0, 0)), blk b4 (.cells [(.pointer none)].toArray 30 (0, 0))] := hs19
 have hs24 := St.f1 hs21
 refine ops_store (off := 0) (cs := [(.pointer none)]) (vs := [(.pointer none)]) hs24 (by kernel_rfl) (by simp) rfl (fun w22 hs23 => ?_)
 have hs25 : St B w [] w22 [blk b17 (.cells [(.pointer none)].toArray 24 (0, 0)), blk b14 (.cells [(.int .u64 0), (.int .u64 0), (.int .u64 0), (.int .u64 0), (.int .u64 0), (.int .u64 0), (.int .u64 0), (.int .u64 0), (.int .u64 0), (.int .u64 0)].toArray 78 (0, 0)), blk b7 (.cells [(.int .i64 gw), (.int .i64 gi), (.int .i64 gb)].toArray 23 (0, 0)), blk b4 (.cells [(.pointer none)].toArray 30 (0, 0))] := hs23
 refine zE 1 (hK8 _ _ ?_)
 refine W.seq fun K26 hK26 => ?_
 refine W.block ?_
 refine W.sr fun K27 hK27 => ?_
 refine zE 3 (hK27 _ _ ?_)
 refine W.cond_true true (by kernel_rfl) rfl ?_
 refine W.sr fun K28 hK28 => ?_
 refine zE 2 (hK28 _ _ ?_)
 refine W.ret (ret_block (ret_seq ?_))
 have hs29 := St.tk0 hs25
 refine ret_of (.int .i64 2) (by kernel_rfl) ⟨_, ⟨rfl, rfl⟩, hs29⟩

theorem dResize_nil {gw gi gb n_ at_ : Int} (B : Nat) (w : World) : Spec Tryd.prog 35 #[(.pointer none), (.agg #[(.int .i64 gw), (.int .i64 gi), (.int .i64 gb)]), (.int .i64 n_), (.int .u64 at_)] B w [] (fun v H' => v = (.int .i64 2) ∧ H' = []) := by
 refine spec_Q Tryd.func35 rfl fun hs => ?_
 refine W.sr fun K1 hK1 => ?_
 refine zN [(.int .i64 gw), (.int .i64 gi), (.int .i64 gb)] 23 hs fun b4 w2 hs3 => ?_
 refine zE 1 (hK1 _ _ ?_)
 refine W.sr fun K5 hK5 => ?_
 refine zR 1 ?_
 refine ops_R (runs_loadAgg (ad := ⟨b4, 0, none⟩) (cs := [(.int .i64 gw), (.int .i64 gi), (.int .i64 gb)]) (by kernel_rfl) (cells_sub (hs3.heapAt 0 rfl) rfl)) ?_
 refine zR 1 ?_
 refine zC00 hs3 (dfile_nil (gw := gw) (gi := gi) (gb := gb) (n_ := n_) B _) fun w6 hs8 => ?_
 refine zR 4 ?_
 refine zN [(.int .u64 0), (.int .u64 0), (.int .u64 0), (.int .u64 0), (.int .u64 0), (.int .u64 0), (.int .u64 0), (.int .u64 0), (.int .u64 0), (.int .u64 0)] 78 hs8 fun b11 w9 hs10 => ?_
 refine ops_store (off := 0) (cs := [(.int .u64 0), (.int .u64 0), (.int .u64 0), (.int .u64 0), (.int .u64 0), (.int .u64 0), (.int .u64 0), (.int .u64 0), (.int .u64 0), (.int .u64 0)]) (vs := [(.int .u64 0), (.int .u64 0), (.int .u64 0), (.int .u64 0), (.int .u64 0), (.int .u64 0), (.int .u64 0), (.int .u64 0), (.int .u64 0), (.int .u64 0)]) hs10 (by kernel_rfl) (by simp) rfl (fun w12 hs13 => ?_)
 have hs14 : St B w [] w12 [blk b11 (.cells [(.int .u64 0), (.int .u64 0), (.int .u64 0), (.int .u64 0), (.int .u64 0), (.int .u64 0), (.int .u64 0), (.int .u64 0), (.int .u64 0), (.int .u64 0)].toArray 78 (0, 0)), blk b4 (.cells [(.int .i64 gw), (.int .i64 gi), (.int .i64 gb)].toArray 23 (0, 0))] := hs13
 refine zE 2 (hK5 _ _ ?_)
 refine W.seq fun K15 hK15 => ?_
 refine W.block ?_
 refine W.sr fun K16 hK16 => ?_
 refine zE 3 (hK16 _ _ ?_)
 refine W.cond_true true (by kernel_rfl) rfl ?_
 refine W.sr fun K17 hK17 => ?_
 refine zE 2 (hK17 _ _ ?_)
 refine W.ret (ret_block (ret_seq ?_))
 have hs18 := St.tk0 hs14
 refine ret_of (.int .i64 2) (by kernel_rfl) ⟨_, ⟨rfl, rfl⟩, hs18⟩

end Go.Proofs.YtmmclabkkigiaaaDoor

set_option linter.unusedVariables false
set_option maxRecDepth 20000
set_option maxHeartbeats 8000000
namespace Go.Proofs.YtmmclabkkigiaaaDoor
open Go Go.RowKit
set_option linter.unusedSimpArgs false
set_option linter.unusedVariables false

def works14_M  : Option (Bool) :=
 (some (placeOf 8 1 3 9 2)).bind fun r16 =>
need (0 ≤ r16 ∧ r16 < (((fmtW 1 3 9).length) : Int)) <|
need ((fmtW 1 3 9).length = ((fmtW 1 3 9).set r16.toNat 1).length) <|
need (((fmtW 1 3 9).set r16.toNat 1).length ≤ 17592186044415) <|
(dWrite_M ((fmtW 1 3 9).set r16.toNat 1) ([]) 1 3 9 2 62 (ByteArray.mk #[97, 98, 99, 100])).bind fun r38 =>
(dRead_M ((fmtW 1 3 9).set r16.toNat 1) r38.2 1 3 9 2 60 9).bind fun r44 =>
(dResize_M ((fmtW 1 3 9).set r16.toNat 1) r38.2 1 3 9 2 63).bind fun r50 =>
(dResize_M ((fmtW 1 3 9).set r16.toNat 1) r50.2 1 3 9 2 66).bind fun r56 =>
(dRead_M ((fmtW 1 3 9).set r16.toNat 1) r56.2 1 3 9 2 60 9).bind fun r62 =>
if r38.1 = 0 then (if r44.2 = 0 then (if (r44.1.toList == (ByteArray.mk #[0, 0, 97, 98, 99, 100]).toList) = true then (if r50.1 = 0 then (if r56.1 = 0 then (if r62.2 = 0 then (if (r62.1.toList == (ByteArray.mk #[0, 0, 97, 0, 0, 0]).toList) = true then ((dNeed_M ((fmtW 1 3 9).set r16.toNat 1) r56.2 1 3 9 2 300 1).bind fun r75 =>
some (decide (r75 = 2))) else (some false)) else (some false)) else (some false)) else (some false)) else (some false)) else (some false)) else (some false)

theorem works14_walk   {r : Bool} (B : Nat) (w : World) (hG : 0 < B) (hT : CellsAt (some ⟨0, 0, none⟩) tab8 w) (hm : works14_M = some r) : Spec Tryd.prog 37 #[] B w [] (fun v H' => v = .bool r ∧ H' = []) := by
 refine spec_Q Tryd.func37 rfl fun hs => ?_
 unfold works14_M at hm
 refine W.sr fun K1 hK1 => ?_
 refine zE 1 (hK1 _ _ ?_)
 refine W.sr fun K2 hK2 => ?_
 refine zR 1 ?_
 refine zN [(.int .i64 0), (.int .i64 0), (.int .i64 0)] 23 hs fun b5 w3 hs4 => ?_
 refine ops_store (off := 0) (cs := [(.int .i64 0), (.int .i64 0), (.int .i64 0)]) (vs := [(.int .i64 1), (.int .i64 3), (.int .i64 9)]) hs4 (by kernel_rfl) (by simp) rfl (fun w6 hs7 => ?_)
 have hs8 : St B w [] w6 [blk b5 (.cells [(.int .i64 1), (.int .i64 3), (.int .i64 9)].toArray 23 (0, 0))] := hs7
 refine zD (hK2 _ _ ?_)
 refine W.sr fun K9 hK9 => ?_
 refine ops_R (runs_loadAgg (ad := ⟨b5, 0, none⟩) (cs := [(.int .i64 1), (.int .i64 3), (.int .i64 9)]) (by kernel_rfl) (cells_sub (hs8.heapAt 0 rfl) rfl)) ?_
 refine ops_call0 hs8 (by kernel_rfl) (format_spec (gw := 1) (gi := 3) (gb := 9) B _) ?_
 rintro _ _ w12 ⟨a10, c11, rfl, rfl⟩ hs13
 have hs14 := St.ap1 hs13
 refine zE 1 (hK9 _ _ ?_)
 refine W.sr fun K15 hK15 => ?_
 refine zR 1 ?_
 refine ops_R (runs_loadAgg (ad := ⟨b5, 0, none⟩) (cs := [(.int .i64 1), (.int .i64 3), (.int .i64 9)]) (by kernel_rfl) (cells_sub (hs14.heapAt 1 rfl) rfl)) ?_
 obtain ⟨r16, h17, hm⟩ := bind_some hm
 replace h17 := some_inj h17
 refine ops_call0 hs14 (by kernel_rfl) (rinodeat_spec (gw := 1) (gi := 3) (gb := 9) (n_ := 2) B _) ?_
 rintro _ _ w18 ⟨hv20, hH21⟩ hs19
 rw [h17] at hv20
 try rw [h17] at hH21
 subst hv20 hH21
 have hs22 := St.ap0 hs19
 obtain ⟨h24, hm⟩ := need_some hm
 have hk23 := lt_toNat h24
 refine ops_R (runs_index (a := a10) (n := (fmtW 1 3 9).length) (z := r16) (size := 1) r16.toNat (nat_of h24.1) hk23 (kU64.addr (St.kcells kU64 hs22 0 rfl) hk23) (by kernel_rfl)) ?_
 refine ops_storeK kU64 (j := 0) (vs := [(.int .u64 1)]) 0 1 hs22 hk23 (Nat.le_of_ble_eq_true rfl) (by simp) rfl rfl (by kernel_rfl) (fun w25 hs26 => ?_)
 refine zD (hK15 _ _ ?_)
 refine W.sr fun K28 hK28 => ?_
 refine zR 1 ?_
 obtain ⟨h29, hm⟩ := need_some hm
 refine ops_set 18 (v := (.slice a10 (((fmtW 1 3 9).set r16.toNat 1).length) c11)) (Eq.trans (by kernel_rfl) (congrArg (fun n_ => Value.slice a10 n_ c11) h29)) ?_
 obtain ⟨h31, hm⟩ := need_some hm
 refine ops_call0 hs26 (by kernel_rfl) (new_spec (hc := (St.kcells kU64 hs26 0 rfl)) (hn := (St.capnil kU64 hs26 0 rfl)) (hsz := h31) B _) ?_
 rintro _ _ w32 ⟨b30, rfl, rfl⟩ hs33
 have hs34 := St.ap1 hs33
 refine zE 1 (hK28 _ _ ?_)
 refine W.seq fun K35 hK35 => ?_
 refine W.sr fun K36 hK36 => ?_
 refine zE 2 (hK36 _ _ ?_)
 refine W.cond_false false (by kernel_rfl) rfl ?_
 refine W.skip ?_
 refine hK35 _ _ ?_
 refine W.sr fun K37 hK37 => ?_
 refine zR 1 ?_
 refine ops_R (runs_loadAgg (ad := ⟨b5, 0, none⟩) (cs := [(.int .i64 1), (.int .i64 3), (.int .i64 9)]) (by kernel_rfl) (cells_sub (hs34.heapAt 2 rfl) rfl)) ?_
 obtain ⟨r38, h39, hm⟩ := bind_some hm
 refine zC11 hs34 (dWrite_walk (vb := b30) (hG := hG) (hT := (hs34.oldCells hT)) (img := ((fmtW 1 3 9).set r16.toNat 1)) (l := []) (gw := 1) (gi := 3) (gb := 9) (n_ := 2) (at_ := 62) (tx_ := (ByteArray.mk #[97, 98, 99, 100])) (hm := h39) B _) fun w40 hs42 => ?_
 refine zE 1 (hK37 _ _ ?_)
 refine W.sr fun K43 hK43 => ?_
 refine zR 1 ?_
 refine ops_R (runs_loadAgg (ad := ⟨b5, 0, none⟩) (cs := [(.int .i64 1), (.int .i64 3), (.int .i64 9)]) (by kernel_rfl) (cells_sub (hs42.heapAt 2 rfl) rfl)) ?_
 obtain ⟨r44, h45, hm⟩ := bind_some hm
 refine zC11 hs42 (dRead_walk (vb := b30) (img := ((fmtW 1 3 9).set r16.toNat 1)) (l := r38.2) (gw := 1) (gi := 3) (gb := 9) (n_ := 2) (at_ := 60) (sz_ := 9) (hm := h45) B _) fun w46 hs48 => ?_
 refine zE 5 (hK43 _ _ ?_)
 refine W.sr fun K49 hK49 => ?_
 refine zR 1 ?_
 refine ops_R (runs_loadAgg (ad := ⟨b5, 0, none⟩) (cs := [(.int .i64 1), (.int .i64 3), (.int .i64 9)]) (by kernel_rfl) (cells_sub (hs48.heapAt 2 rfl) rfl)) ?_
 obtain ⟨r50, h51, hm⟩ := bind_some hm
 refine zC11 hs48 (dResize_walk (vb := b30) (img := ((fmtW 1 3 9).set r16.toNat 1)) (l := r38.2) (gw := 1) (gi := 3) (gb := 9) (n_ := 2) (sz_ := 63) (hm := h51) B _) fun w52 hs54 => ?_
 refine zE 1 (hK49 _ _ ?_)
 refine W.sr fun K55 hK55 => ?_
 refine zR 1 ?_
 refine ops_R (runs_loadAgg (ad := ⟨b5, 0, none⟩) (cs := [(.int .i64 1), (.int .i64 3), (.int .i64 9)]) (by kernel_rfl) (cells_sub (hs54.heapAt 2 rfl) rfl)) ?_
 obtain ⟨r56, h57, hm⟩ := bind_some hm
 refine zC11 hs54 (dResize_walk (vb := b30) (img := ((fmtW 1 3 9).set r16.toNat 1)) (l := r50.2) (gw := 1) (gi := 3) (gb := 9) (n_ := 2) (sz_ := 66) (hm := h57) B _) fun w58 hs60 => ?_
 refine zE 1 (hK55 _ _ ?_)
 refine W.sr fun K61 hK61 => ?_
 refine zR 1 ?_
 refine ops_R (runs_loadAgg (ad := ⟨b5, 0, none⟩) (cs := [(.int .i64 1), (.int .i64 3), (.int .i64 9)]) (by kernel_rfl) (cells_sub (hs60.heapAt 2 rfl) rfl)) ?_
 obtain ⟨r62, h63, hm⟩ := bind_some hm
 refine zC11 hs60 (dRead_walk (vb := b30) (img := ((fmtW 1 3 9).set r16.toNat 1)) (l := r56.2) (gw := 1) (gi := 3) (gb := 9) (n_ := 2) (at_ := 60) (sz_ := 9) (hm := h63) B _) fun w64 hs66 => ?_
 refine zE 5 (hK61 _ _ ?_)
 refine W.sr fun K67 hK67 => ?_
 refine zR 3 ?_
 rcases Bool.eq_false_or_eq_true (decide (r38.1 = 0)) with h68 | h68
 ·
  obtain ⟨h68p, hm⟩ := iY hm h68
  refine zS 45 h68 ?_
  refine zS 44 h68 ?_
  refine zR 4 ?_
  rcases Bool.eq_false_or_eq_true (decide (r44.2 = 0)) with h69 | h69
  ·
   obtain ⟨h69p, hm⟩ := iY hm h69
   refine zS 49 h69 ?_
   refine zS 47 h69 ?_
   refine zS 48 h69 ?_
   refine zR 4 ?_
   rcases Bool.eq_false_or_eq_true (r44.1.toList == (ByteArray.mk #[0, 0, 97, 98, 99, 100]).toList) with h70 | h70
   ·
    have h70p : (r44.1.toList == (ByteArray.mk #[0, 0, 97, 98, 99, 100]).toList) = true := h70
    replace hm := ite_yes hm h70p
    refine zS 53 h70 ?_
    refine zS 51 h70 ?_
    refine zS 52 h70 ?_
    refine zR 4 ?_
    rcases Bool.eq_false_or_eq_true (decide (r50.1 = 0)) with h71 | h71
    ·
     obtain ⟨h71p, hm⟩ := iY hm h71
     refine zS 57 h71 ?_
     refine zS 55 h71 ?_
     refine zS 56 h71 ?_
     refine zR 4 ?_
     rcases Bool.eq_false_or_eq_true (decide (r56.1 = 0)) with h72 | h72
     ·
      obtain ⟨h72p, hm⟩ := iY hm h72
      refine zS 61 h72 ?_
      refine zS 59 h72 ?_
      refine zS 60 h72 ?_
      refine zR 4 ?_
      rcases Bool.eq_false_or_eq_true (decide (r62.2 = 0)) with h73 | h73
      ·
       obtain ⟨h73p, hm⟩ := iY hm h73
       refine zS 65 h73 ?_
       refine zS 63 h73 ?_
       refine zS 64 h73 ?_
       refine zR 4 ?_
       rcases Bool.eq_false_or_eq_true (r62.1.toList == (ByteArray.mk #[0, 0, 97, 0, 0, 0]).toList) with h74 | h74
       ·
        have h74p : (r62.1.toList == (ByteArray.mk #[0, 0, 97, 0, 0, 0]).toList) = true := h74
        replace hm := ite_yes hm h74p
        refine zS 69 h74 ?_
        refine zS 67 h74 ?_
        refine zS 68 h74 ?_
        refine zR 1 ?_
        refine ops_R (runs_loadAgg (ad := ⟨b5, 0, none⟩) (cs := [(.int .i64 1), (.int .i64 3), (.int .i64 9)]) (by kernel_rfl) (cells_sub (hs66.heapAt 2 rfl) rfl)) ?_
        obtain ⟨r75, h76, hm⟩ := bind_some hm
        refine zC11 hs66 (dNeed_walk (vb := b30) (img := ((fmtW 1 3 9).set r16.toNat 1)) (l := r56.2) (gw := 1) (gi := 3) (gb := 9) (n_ := 2) (at_ := 300) (ma_ := 1) (hm := h76) B _) fun w77 hs79 => ?_
        refine zE 3 (hK67 _ _ ?_)
        refine W.ret ?_
        obtain rfl := some_inj hm
        have hs80 := St.tk0 hs79
        refine ret_of (.bool (decide (r75 = 2))) (by kernel_rfl) ⟨_, ⟨rfl, rfl⟩, hs80⟩
       ·
        have h74p : ¬ ((r62.1.toList == (ByteArray.mk #[0, 0, 97, 0, 0, 0]).toList) = true) := ne_true_of_eq_false h74
        replace hm := ite_no hm h74p
        refine zS 69 h74 ?_
        refine zS 67 h74 ?_
        refine zS 68 h74 ?_
        refine zE 6 (hK67 _ _ ?_)
        refine W.ret ?_
        obtain rfl := some_inj hm
        have hs81 := St.tk0 hs66
        refine ret_of (.bool false) (by kernel_rfl) ⟨_, ⟨rfl, rfl⟩, hs81⟩
      ·
       obtain ⟨h73p, hm⟩ := iN hm h73
       refine zS 65 h73 ?_
       refine zS 63 h73 ?_
       refine zS 64 h73 ?_
       refine zE 10 (hK67 _ _ ?_)
       refine W.ret ?_
       obtain rfl := some_inj hm
       have hs82 := St.tk0 hs66
       refine ret_of (.bool false) (by kernel_rfl) ⟨_, ⟨rfl, rfl⟩, hs82⟩
     ·
      obtain ⟨h72p, hm⟩ := iN hm h72
      refine zS 61 h72 ?_
      refine zS 59 h72 ?_
      refine zS 60 h72 ?_
      refine zE 14 (hK67 _ _ ?_)
      refine W.ret ?_
      obtain rfl := some_inj hm
      have hs83 := St.tk0 hs66
      refine ret_of (.bool false) (by kernel_rfl) ⟨_, ⟨rfl, rfl⟩, hs83⟩
    ·
     obtain ⟨h71p, hm⟩ := iN hm h71
     refine zS 57 h71 ?_
     refine zS 55 h71 ?_
     refine zS 56 h71 ?_
     refine zE 18 (hK67 _ _ ?_)
     refine W.ret ?_
     obtain rfl := some_inj hm
     have hs84 := St.tk0 hs66
     refine ret_of (.bool false) (by kernel_rfl) ⟨_, ⟨rfl, rfl⟩, hs84⟩
   ·
    have h70p : ¬ ((r44.1.toList == (ByteArray.mk #[0, 0, 97, 98, 99, 100]).toList) = true) := ne_true_of_eq_false h70
    replace hm := ite_no hm h70p
    refine zS 53 h70 ?_
    refine zS 51 h70 ?_
    refine zS 52 h70 ?_
    refine zE 22 (hK67 _ _ ?_)
    refine W.ret ?_
    obtain rfl := some_inj hm
    have hs85 := St.tk0 hs66
    refine ret_of (.bool false) (by kernel_rfl) ⟨_, ⟨rfl, rfl⟩, hs85⟩
  ·
   obtain ⟨h69p, hm⟩ := iN hm h69
   refine zS 49 h69 ?_
   refine zS 47 h69 ?_
   refine zS 48 h69 ?_
   refine zE 26 (hK67 _ _ ?_)
   refine W.ret ?_
   obtain rfl := some_inj hm
   have hs86 := St.tk0 hs66
   refine ret_of (.bool false) (by kernel_rfl) ⟨_, ⟨rfl, rfl⟩, hs86⟩
 ·
  obtain ⟨h68p, hm⟩ := iN hm h68
  refine zS 45 h68 ?_
  refine zS 44 h68 ?_
  refine zE 30 (hK67 _ _ ?_)
  refine W.ret ?_
  obtain rfl := some_inj hm
  have hs87 := St.tk0 hs66
  refine ret_of (.bool false) (by kernel_rfl) ⟨_, ⟨rfl, rfl⟩, hs87⟩

end Go.Proofs.YtmmclabkkigiaaaDoor

namespace Go.Proofs.YtmmclabkkigiaaaDoor
open Go Go.RowKit
set_option maxRecDepth 100000 in
set_option maxHeartbeats 4000000 in
theorem works14_eq : works14_M = some true := by decide +kernel
end Go.Proofs.YtmmclabkkigiaaaDoor

namespace Go.Proofs.YtmmclabkkigiaaaDoor
open Go Go.RowKit
set_option linter.unusedVariables false
set_option linter.unusedSimpArgs false

theorem vget_lset {xs : List Int} {a : Nat} {x z : Int} (ha : a < xs.length) : vget (xs.set a x) [] z = if z = (a : Int) then x else vget xs [] z := by
  unfold vget
  rw [List.length_set]
  by_cases hz : 0 ≤ z ∧ z < (xs.length : Int)
  · rw [if_pos hz, if_pos hz]
    simp only [show vlook [] z = none from rfl, Option.getD_none]
    rw [List.getD_eq_getElem?_getD, List.getElem?_set]
    by_cases e : a = z.toNat
    · rw [if_pos e, if_pos (by omega), if_pos (by omega)]
      rfl
    · rw [if_neg e, if_neg (by omega), ← List.getD_eq_getElem?_getD]
  · rw [if_neg hz, if_neg hz, if_neg (by omega)]
def fileW (gb : Int) : List Int := ((fmtW 1 3 gb).set 520 1).set 472 (bits .or .u64 (((fmtW 1 3 gb).set 520 1).getD 472 0) 4)
theorem file14_eq {b gb : Int} (hb : 0 ≤ b ∧ b ≤ 255) (hg : gb = 2 + b % 60) : file14_M b = some (fileW gb) := by
  subst hg
  have hM : May 1 3 (2 + b % 60) := by unfold May; omega
  have hw := words_may hM
  have hl := fmtW_len 1 3 (2 + b % 60)
  have h8 := place8_in (n := 2) hM (by omega)
  have h6 := place6 hM
  unfold file14_M
  refine need_of (by omega) (need_of (by omega) ?_)
  rw [show (2 : Int) + 1 % 20 = 3 by omega, h8, h6]
  refine bind_of rfl ?_
  rw [show (280 + 208 * 1 + 16 * 2 : Int) = 520 by omega, show (264 + 208 * 1 : Int) = 472 by omega]
  have hl2 : ((fmtW 1 3 (2 + b % 60)).set (520 : Int).toNat 1).length = (fmtW 1 3 (2 + b % 60)).length := List.length_set ..
  exact need_of (by omega) (need_of (by omega) (need_of (by rw [hl2]; omega) (need_of (by omega) (need_of (by rw [hl2]; omega) (need_of (by rw [List.length_set, hl2]) rfl)))))
theorem Fi.start {gb : Int} (hg : 2 ≤ gb ∧ gb ≤ 512) : Fi 3 gb (fileW gb) [] 0 (fun _ => 0) 0 := by
  have hM : May 1 3 gb := by unfold May; omega
  have hw := words_may hM
  have hl := fmtW_len 1 3 gb
  have h0 := Mp.fmt hM
  have hlen : (fmtW 1 3 gb).length = (536 + 8 * gb).toNat := by omega
  have hv : ∀ z, vget (fileW gb) [] z = if z = 472 then bits .or .u64 (((fmtW 1 3 gb).set 520 1).getD 472 0) 4 else if z = 520 then 1 else vget (fmtW 1 3 gb) [] z := fun z => by
    unfold fileW
    rw [vget_lset (by rw [List.length_set]; omega), vget_lset (by omega)]
    rfl
  have hx : U64 (((fmtW 1 3 gb).set 520 1).getD 472 0) := by
    rw [List.getD_eq_getElem?_getD, List.getElem?_set, if_neg (by decide)]
    cases hc : (fmtW 1 3 gb)[472]? with
    | none => exact u64_zero
    | some x => exact fmtW_u64 x (List.mem_of_getElem? hc)
  have hor : U64 (bits .or .u64 (((fmtW 1 3 gb).set 520 1).getD 472 0) 4) := bits_u64 hx (by unfold U64; omega)
  have hu : ∀ x ∈ fileW gb, U64 x := by
    intro x hx
    unfold fileW at hx
    rcases List.mem_or_eq_of_mem_set hx with hx | hx
    · rcases List.mem_or_eq_of_mem_set hx with hx | hx
      · exact fmtW_u64 x hx
      · rw [hx]; unfold U64; omega
    · rw [hx]; exact hor
  have hfl : ((fileW gb).length : Int) = 488 + 16 * 3 + 8 * gb := by
    unfold fileW
    rw [List.length_set, List.length_set]
    omega
  have hD : Dk 3 gb (fileW gb) [] := Dk.start hM hfl hu
  have w : ∀ z : Int, 521 ≤ z → z < 536 → vget (fileW gb) [] z = 0 := fun z h1 h2 => by
    rw [hv, if_neg (by omega), if_neg (by omega), fmt_vget hM (by omega)]
    simp only [Int.mul_one, Int.reduceAdd, Int.reduceMul]
    rw [if_neg (show ¬ z = 505 by omega), if_neg (show ¬ z = 504 by omega), if_neg (show ¬ z = 480 by omega), if_neg (show ¬ z = 472 by omega), if_neg (show ¬ z = 3 by omega), if_neg (show ¬ z = 2 by omega), if_neg (show ¬ z = 1 by omega), if_neg (show ¬ z = 0 by omega)]
  have hMp : Mp 3 gb (fileW gb) [] 2 (fun _ => False) ⟨1, 0, 0, 0, 0⟩ (fun _ => 0) 0 := by
    refine ⟨hD, by omega, ⟨show (0 : Int) < 3 by omega, ⟨show (0 : Int) ≤ 65536 by omega, show (0 : Int) ≤ 16 by omega, show (0 : Int) ≤ 768 by omega⟩, .inl ⟨rfl, rfl⟩⟩, ?_, w _ (by omega) (by omega), w _ (by omega) (by omega), w _ (by omega) (by omega), w _ (by omega) (by omega), fun k hk => w _ (by omega) (by omega), w _ (by omega) (by omega), fun k _ _ => by rw [if_pos rfl], fun k _ => ⟨Int.le_refl 0, show (0 : Int) < gb by omega⟩, by omega, fun j k _ _ h => absurd rfl h, fun k _ h => absurd rfl h, fun b hb => ?_, fun b hb => hb.elim⟩
    · rw [hv, if_neg (by omega), if_pos (by omega)]
    · rw [← h0.bits b hb]
      rw [mbits_congr (img' := fmtW 1 3 gb) (l' := []) (by rw [hv, if_neg (by omega), if_neg (by omega)])]
  exact ⟨hMp, by omega, fun k hk q => absurd rfl q, fun i hi _ => by unfold dat; rw [if_pos rfl]⟩
theorem works14_stop : Ok (· = true) ((works14_M).bind fun r => some r) := by
  rw [works14_eq]
  exact Ok.some rfl
end Go.Proofs.YtmmclabkkigiaaaDoor

namespace Go.Proofs.YtmmclabkkigiaaaDoor
open Go Go.RowKit
set_option linter.unusedVariables false
set_option linter.unusedSimpArgs false

theorem Ok.got {α ρ : Type} {R : ρ → Prop} {x : Option α} {y : α} {f : α → Option ρ} (h : x = Option.some y) (hf : Ok R (f y)) : Ok R (x.bind f) := by
  rw [h]; exact hf
theorem getD_in {α : Type} {xs : List α} {d : α} {i : Nat} (h : i < xs.length) : xs.getD i d ∈ xs := by
  simp [List.getD, h]
theorem str_app (a b : List Int) : strOfNums a ++ strOfNums b = strOfNums (a ++ b) := by
  unfold strOfNums
  rw [List.map_append]
  apply ByteArray.ext
  simp [ByteArray.data_append]
theorem str_size (a : List Int) : (strOfNums a).size = a.length := by
  unfold strOfNums
  show (a.map _).toArray.size = _
  simp
theorem ext_size (s : ByteArray) (k : Nat) : (s.extract 0 k).size ≤ k := by
  rw [ByteArray.size_extract]
  omega
theorem great14_any (ss : List TSt14) : Ok (fun _ => True) (great14_M ss) := by
  unfold great14_M
  refine Ok.ite (fun _ => Ok.some trivial) fun h => ?_
  refine Ok.iter (fun p => 0 ≤ p) (fun p => ((ss.length : Int) - p).toNat) ?_ _ _ (by omega) (fuel_lt (by omega))
  intro k p h1 ih
  unfold great14_B0
  exact Ok.ite (fun hp => Ok.need (by omega) (Ok.ite (fun _ => Ok.some trivial) fun _ => Ok.need (by omega) (ih _ (by omega) (by omega)))) fun _ => Ok.some trivial
theorem great14_len (ss : List TSt14) : Ok (fun r => r = false → ss.length ≤ 30) (great14_M ss) := by
  unfold great14_M
  refine Ok.ite (fun _ => Ok.some fun e => by cases e) fun h => ?_
  refine Ok.iter (fun p => 0 ≤ p) (fun p => ((ss.length : Int) - p).toNat) ?_ _ _ (by omega) (fuel_lt (by omega))
  intro k p h1 ih
  unfold great14_B0
  exact Ok.ite (fun hp => Ok.need (by omega) (Ok.ite (fun _ => Ok.some fun e => by cases e) fun _ => Ok.need (by omega) (ih _ (by omega) (by omega)))) fun _ => Ok.some fun _ => by omega
theorem sbyte_num (s : ByteArray) {k : Int} (h : 0 ≤ k ∧ k < (s.size : Int)) : sbyte s k = (strNums s).getD k.toNat 0 := by
  have hk : k.toNat < s.size := by omega
  unfold sbyte strNums
  rw [getElem?_pos s k.toNat hk, Option.getD_some]
  have hk2 : k.toNat < s.data.size := hk
  simp only [List.getD_eq_getElem?_getD, List.getElem?_map, Array.getElem?_toList]
  rw [Array.getElem?_eq_getElem hk2]
  rfl
section
variable {gi gb : Int} {img : List Int} {l : List (Int × Int)} {sz : Int} {f : Nat → Int} {c : Int}
theorem Fi.write_any (h : Fi gi gb img [] sz f c) {at_ : Int} (ha : U64 at_) {tx : ByteArray} (htx : tx.size ≤ 512) : ∃ e m sz' f' c', dWrite_M img [] 1 gi gb 2 at_ tx = some (e, m) ∧ Fi gi gb img m sz' f' c' := by
  rcases h.write ha htx with ⟨_, e⟩ | ⟨_, _, e⟩ | ⟨_, _, _, e⟩ | ⟨_, _, _, m, f', c', e, w⟩
  · exact ⟨_, _, sz, f, c, e, h⟩
  · exact ⟨_, _, sz, f, c, e, h⟩
  · exact ⟨_, _, sz, f, c, e, h⟩
  · exact ⟨_, _, _, f', c', e, w.fi⟩
end
end Go.Proofs.YtmmclabkkigiaaaDoor

namespace Go.Proofs.YtmmclabkkigiaaaDoor
open Go Go.RowKit
set_option linter.unusedSimpArgs false
set_option linter.unusedVariables false



structure TGeo where
  c0 : Int
  c1 : Int
  c2 : Int

def kGeo : Kind TGeo := ⟨23, 3, fun x => [.int .i64 x.c0, .int .i64 x.c1, .int .i64 x.c2], by decide, fun _ => rfl, fun _ => rfl⟩
def good_Geo (x : TGeo) : Prop := (-9223372036854775808 ≤ x.c0 ∧ x.c0 ≤ 9223372036854775807) ∧ (-9223372036854775808 ≤ x.c1 ∧ x.c1 ≤ 9223372036854775807) ∧ (-9223372036854775808 ≤ x.c2 ∧ x.c2 ≤ 9223372036854775807)

end Go.Proofs.YtmmclabkkigiaaaDoor

namespace Go.Proofs.YtmmclabkkigiaaaDoor
open Go.ChangeShapes Go.WideShapes Go.ChangeAt Go.RowKit Go.Deep

inductive Leaf where
  | int (k : IntKind)
  | bool

def LeafOk : Leaf → Value → Prop
  | .int k, v => ∃ z, v = .int k z ∧ (Lit.int k z).wf = true
  | .bool, v => ∃ b, v = .bool b

def LeavesOk : List Leaf → List Value → Prop
  | [], [] => True
  | k :: ks, v :: vs => LeafOk k v ∧ LeavesOk ks vs
  | _, _ => False

theorem LeavesOk.append : ∀ {ks ks' : List Leaf} {vs vs' : List Value}, LeavesOk ks vs → LeavesOk ks' vs' → LeavesOk (ks ++ ks') (vs ++ vs')
  | [], _, [], _, _, h => h
  | _ :: _, _, _ :: _, _, h, h' => ⟨h.1, LeavesOk.append h.2 h'⟩

def leavesF (P : Program) (lv : TypeId → Option (List Leaf)) : Nat → List Field → Option (List Leaf)
  | _, [] => some []
  | off, f :: fs => match lv f.type with
    | some l => if f.offset = off ∧ P.cellsOf f.type = l.length then (leavesF P lv (off + l.length) fs).map (l ++ ·) else none
    | none => none

def leaves (P : Program) : Nat → TypeId → Option (List Leaf)
  | 0, _ => none
  | m + 1, t => match P.underlying t with
    | some (.int k) => some [.int k]
    | some .bool => some [.bool]
    | some (.struct fs) => match leavesF P (leaves P m) 0 fs.toList with
      | some ks => if P.cellsOf t = ks.length then some ks else none
      | none => none
    | some (.array n e) => match leaves P m e with
      | some l => if P.cellsOf e = l.length ∧ P.cellsOf t = n * l.length then some ((List.replicate n l).flatten) else none
      | none => none
    | _ => none

section
variable {H : Type} {enc : TypeId × Value → H} {P : Program} {w : World} {base : Nat} {sp : Nat → Bool} {held : Bool}

theorem leavesF_ok {lv : TypeId → Option (List Leaf)} (hlv : ∀ (t : TypeId) (ks : List Leaf) (n : Nat) (cs : List Value) (y : DataW H × List MemPlace), lv t = some ks → DataW.trod enc P w base sp held n t cs = some y → LeavesOk ks cs) {cs : List Value} :
    ∀ (fs : List Field) (off : Nat) (ks : List Leaf), leavesF P lv off fs = some ks → (∀ (i : Nat) (f : Field), fs[i]? = some f → ∃ n y, DataW.trod enc P w base sp held n f.type ((cs.drop f.offset).take (P.cellsOf f.type)) = some y) →
      LeavesOk ks ((cs.drop off).take ks.length)
  | [], off, ks, h, _ => by
    simp only [leavesF, Option.some.injEq] at h
    subst h
    simp [LeavesOk]
  | f :: fs, off, ks, h, ht => by
    unfold leavesF at h
    split at h
    · rename_i l hl
      split at h
      · rename_i hc
        simp only [Option.map_eq_some_iff] at h
        obtain ⟨ks', hk', rfl⟩ := h
        obtain ⟨n, y, hy⟩ := ht 0 f rfl
        rw [hc.1, hc.2] at hy
        have h1 := hlv _ _ _ _ _ hl hy
        have h2 := leavesF_ok hlv fs (off + l.length) ks' hk' (fun i g hg => ht (i + 1) g (by simpa using hg))
        have e : (cs.drop off).take (l ++ ks').length = (cs.drop off).take l.length ++ (cs.drop (off + l.length)).take ks'.length := by
          rw [List.length_append, List.take_add, List.drop_drop]
        rw [e]
        exact h1.append h2
      · cases h
    · cases h

theorem leavesA_ok {l : List Leaf} {cs : List Value} : ∀ n : Nat, (∀ i, i < n → LeavesOk l ((cs.drop (i * l.length)).take l.length)) → LeavesOk ((List.replicate n l).flatten) (cs.take (n * l.length))
  | 0, _ => by simp [LeavesOk]
  | n + 1, h => by
    have h1 := leavesA_ok n (fun i hi => h i (by omega))
    have h2 := h n (by omega)
    have e1 : (List.replicate (n + 1) l).flatten = (List.replicate n l).flatten ++ l := by
      rw [List.replicate_succ', List.flatten_append]
      simp
    have e2 : cs.take ((n + 1) * l.length) = cs.take (n * l.length) ++ (cs.drop (n * l.length)).take l.length := by
      rw [Nat.add_mul, Nat.one_mul, List.take_add]
    rw [e1, e2]
    exact h1.append h2

theorem leaves_ok : ∀ (m : Nat) (t : TypeId) (ks : List Leaf) (n : Nat) (cs : List Value) (y : DataW H × List MemPlace), leaves P m t = some ks → DataW.trod enc P w base sp held n t cs = some y → LeavesOk ks cs
  | 0, t, ks, n, cs, y, h, _ => by simp [leaves] at h
  | m + 1, t, ks, n, cs, y, h, hy => by
    unfold leaves at h
    split at h
    · rename_i k hu
      cases h
      obtain ⟨z, rfl, _, hz⟩ := DataW.trod_int hu hy
      exact ⟨⟨z, rfl, hz⟩, trivial⟩
    · rename_i hu
      cases h
      cases n with
      | zero => simp [DataW.trod] at hy
      | succ n =>
        unfold DataW.trod at hy
        rw [hu] at hy
        split at hy <;> simp_all [LeavesOk, LeafOk]
    · rename_i fs hu
      split at h
      · rename_i ks' hks
        split at h
        · rename_i hc
          cases h
          obtain ⟨xs, n', rfl, _, hlen, hxl, hf⟩ := DataW.trod_struct hu hy
          have h1 := leavesF_ok (cs := cs) (leaves_ok m) fs.toList 0 _ hks (fun i f hi => by
            have hi' : fs[i]? = some f := by simpa using hi
            have := hf i f hi'
            have hil : i < xs.length := by rw [hxl]; exact (Array.getElem?_eq_some_iff.1 hi').1
            rw [List.getElem?_eq_getElem hil] at this
            exact ⟨_, _, this⟩)
          simpa [← hc, ← hlen] using h1
        · cases h
      · cases h
    · rename_i k e hu
      split at h
      · rename_i l hl
        split at h
        · rename_i hc
          cases h
          obtain ⟨xs, n', rfl, _, hlen, hxl, hf⟩ := DataW.trod_array hu hy
          have h1 := leavesA_ok (l := l) (cs := cs) k (fun i hi => by
            have := hf i hi
            have hil : i < xs.length := by rw [hxl]; exact hi
            rw [List.getElem?_eq_getElem hil, hc.1] at this
            exact leaves_ok m _ _ _ _ _ hl this)
          simpa [← hc.2, ← hlen] using h1
        · cases h
      · cases h
    · cases h

theorem open_agg {α : Type} (K : Kind α) (good : α → Prop) {fs : Array Field} {ks : List Leaf} (m : Nat) (hs : P.underlying K.e = some (.struct fs)) (hl : leaves P m K.e = some ks) (hread : ∀ cs, LeavesOk ks cs → ∃ x, cs = K.elem x ∧ good x)
    {r : Reach} {b0 : Nat} {v : Value} {d : DataW H} {ps : List MemPlace} (hval : Value.okWide P w r b0 K.e v) (h : DataW.Trod enc P w base sp held K.e v d ps) : ∃ x, v = .agg (K.elem x).toArray ∧ good x := by
  obtain ⟨cs, rfl, _⟩ := okWide_struct hs hval
  obtain ⟨fuel, h⟩ := h
  have h' : DataW.trod enc P w base sp held fuel K.e cs.toList = some (d, ps) := h
  obtain ⟨x, hx, hg⟩ := hread _ (leaves_ok m _ _ _ _ _ hl h')
  exact ⟨x, by rw [← hx], hg⟩
end
theorem leaves_cons {k : Leaf} {ks : List Leaf} : ∀ {cs : List Value}, LeavesOk (k :: ks) cs → ∃ v vs, cs = v :: vs ∧ LeafOk k v ∧ LeavesOk ks vs
  | v :: vs, h => ⟨v, vs, rfl, h.1, h.2⟩
  | [], h => h.elim
theorem leaves_nil : ∀ {cs : List Value}, LeavesOk [] cs → cs = []
  | [], _ => rfl
  | _ :: _, h => h.elim
end Go.Proofs.YtmmclabkkigiaaaDoor

namespace Go.Proofs.YtmmclabkkigiaaaDoor
namespace WithText
open Go.ChangeShapes Go.WideShapes Go.ChangeAt Go.RowKit Go.Deep

inductive Leaf where
  | int (k : IntKind)
  | bool
  | string

def LeafOk : Leaf → Value → Prop
  | .int k, v => ∃ z, v = .int k z ∧ (Lit.int k z).wf = true
  | .bool, v => ∃ b, v = .bool b
  | .string, v => ∃ b, v = .string b ∧ b.size ≤ maxLen

def LeavesOk : List Leaf → List Value → Prop
  | [], [] => True
  | k :: ks, v :: vs => LeafOk k v ∧ LeavesOk ks vs
  | _, _ => False

theorem LeavesOk.append : ∀ {ks ks' : List Leaf} {vs vs' : List Value}, LeavesOk ks vs → LeavesOk ks' vs' → LeavesOk (ks ++ ks') (vs ++ vs')
  | [], _, [], _, _, h => h
  | _ :: _, _, _ :: _, _, h, h' => ⟨h.1, LeavesOk.append h.2 h'⟩

def leavesF (P : Program) (lv : TypeId → Option (List Leaf)) : Nat → List Field → Option (List Leaf)
  | _, [] => some []
  | off, f :: fs => match lv f.type with
    | some l => if f.offset = off ∧ P.cellsOf f.type = l.length then (leavesF P lv (off + l.length) fs).map (l ++ ·) else none
    | none => none

def leaves (P : Program) : Nat → TypeId → Option (List Leaf)
  | 0, _ => none
  | m + 1, t => match P.underlying t with
    | some (.int k) => some [.int k]
    | some .bool => some [.bool]
    | some .string => some [.string]
    | some (.struct fs) => match leavesF P (leaves P m) 0 fs.toList with
      | some ks => if P.cellsOf t = ks.length then some ks else none
      | none => none
    | some (.array n e) => match leaves P m e with
      | some l => if P.cellsOf e = l.length ∧ P.cellsOf t = n * l.length then some ((List.replicate n l).flatten) else none
      | none => none
    | _ => none

section
variable {H : Type} {enc : TypeId × Value → H} {P : Program} {w : World} {base : Nat} {sp : Nat → Bool} {held : Bool}

theorem leavesF_ok {lv : TypeId → Option (List Leaf)} (hlv : ∀ (t : TypeId) (ks : List Leaf) (n : Nat) (cs : List Value) (y : DataW H × List MemPlace), lv t = some ks → DataW.trod enc P w base sp held n t cs = some y → LeavesOk ks cs) {cs : List Value} :
    ∀ (fs : List Field) (off : Nat) (ks : List Leaf), leavesF P lv off fs = some ks → (∀ (i : Nat) (f : Field), fs[i]? = some f → ∃ n y, DataW.trod enc P w base sp held n f.type ((cs.drop f.offset).take (P.cellsOf f.type)) = some y) →
      LeavesOk ks ((cs.drop off).take ks.length)
  | [], off, ks, h, _ => by
    simp only [leavesF, Option.some.injEq] at h
    subst h
    simp [LeavesOk]
  | f :: fs, off, ks, h, ht => by
    unfold leavesF at h
    split at h
    · rename_i l hl
      split at h
      · rename_i hc
        simp only [Option.map_eq_some_iff] at h
        obtain ⟨ks', hk', rfl⟩ := h
        obtain ⟨n, y, hy⟩ := ht 0 f rfl
        rw [hc.1, hc.2] at hy
        have h1 := hlv _ _ _ _ _ hl hy
        have h2 := leavesF_ok hlv fs (off + l.length) ks' hk' (fun i g hg => ht (i + 1) g (by simpa using hg))
        have e : (cs.drop off).take (l ++ ks').length = (cs.drop off).take l.length ++ (cs.drop (off + l.length)).take ks'.length := by
          rw [List.length_append, List.take_add, List.drop_drop]
        rw [e]
        exact h1.append h2
      · cases h
    · cases h

theorem leavesA_ok {l : List Leaf} {cs : List Value} : ∀ n : Nat, (∀ i, i < n → LeavesOk l ((cs.drop (i * l.length)).take l.length)) → LeavesOk ((List.replicate n l).flatten) (cs.take (n * l.length))
  | 0, _ => by simp [LeavesOk]
  | n + 1, h => by
    have h1 := leavesA_ok n (fun i hi => h i (by omega))
    have h2 := h n (by omega)
    have e1 : (List.replicate (n + 1) l).flatten = (List.replicate n l).flatten ++ l := by
      rw [List.replicate_succ', List.flatten_append]
      simp
    have e2 : cs.take ((n + 1) * l.length) = cs.take (n * l.length) ++ (cs.drop (n * l.length)).take l.length := by
      rw [Nat.add_mul, Nat.one_mul, List.take_add]
    rw [e1, e2]
    exact h1.append h2

theorem leaves_ok : ∀ (m : Nat) (t : TypeId) (ks : List Leaf) (n : Nat) (cs : List Value) (y : DataW H × List MemPlace), leaves P m t = some ks → DataW.trod enc P w base sp held n t cs = some y → LeavesOk ks cs
  | 0, t, ks, n, cs, y, h, _ => by simp [leaves] at h
  | m + 1, t, ks, n, cs, y, h, hy => by
    unfold leaves at h
    split at h
    · rename_i k hu
      cases h
      obtain ⟨z, rfl, _, hz⟩ := DataW.trod_int hu hy
      exact ⟨⟨z, rfl, hz⟩, trivial⟩
    · rename_i hu
      cases h
      cases n with
      | zero => simp [DataW.trod] at hy
      | succ n =>
        unfold DataW.trod at hy
        rw [hu] at hy
        split at hy <;> simp_all [LeavesOk, LeafOk]
    · rename_i hu
      cases h
      obtain ⟨b, rfl, _, hz⟩ := DataW.trod_string hu hy
      exact ⟨⟨b, rfl, hz⟩, trivial⟩
    · rename_i fs hu
      split at h
      · rename_i ks' hks
        split at h
        · rename_i hc
          cases h
          obtain ⟨xs, n', rfl, _, hlen, hxl, hf⟩ := DataW.trod_struct hu hy
          have h1 := leavesF_ok (cs := cs) (leaves_ok m) fs.toList 0 _ hks (fun i f hi => by
            have hi' : fs[i]? = some f := by simpa using hi
            have := hf i f hi'
            have hil : i < xs.length := by rw [hxl]; exact (Array.getElem?_eq_some_iff.1 hi').1
            rw [List.getElem?_eq_getElem hil] at this
            exact ⟨_, _, this⟩)
          simpa [← hc, ← hlen] using h1
        · cases h
      · cases h
    · rename_i k e hu
      split at h
      · rename_i l hl
        split at h
        · rename_i hc
          cases h
          obtain ⟨xs, n', rfl, _, hlen, hxl, hf⟩ := DataW.trod_array hu hy
          have h1 := leavesA_ok (l := l) (cs := cs) k (fun i hi => by
            have := hf i hi
            have hil : i < xs.length := by rw [hxl]; exact hi
            rw [List.getElem?_eq_getElem hil, hc.1] at this
            exact leaves_ok m _ _ _ _ _ hl this)
          simpa [← hc.2, ← hlen] using h1
        · cases h
      · cases h
    · cases h

theorem open_agg {α : Type} (K : Kind α) (good : α → Prop) {fs : Array Field} {ks : List Leaf} (m : Nat) (hs : P.underlying K.e = some (.struct fs)) (hl : leaves P m K.e = some ks) (hread : ∀ cs, LeavesOk ks cs → ∃ x, cs = K.elem x ∧ good x)
    {r : Reach} {b0 : Nat} {v : Value} {d : DataW H} {ps : List MemPlace} (hval : Value.okWide P w r b0 K.e v) (h : DataW.Trod enc P w base sp held K.e v d ps) : ∃ x, v = .agg (K.elem x).toArray ∧ good x := by
  obtain ⟨cs, rfl, _⟩ := okWide_struct hs hval
  obtain ⟨fuel, h⟩ := h
  have h' : DataW.trod enc P w base sp held fuel K.e cs.toList = some (d, ps) := h
  obtain ⟨x, hx, hg⟩ := hread _ (leaves_ok m _ _ _ _ _ hl h')
  exact ⟨x, by rw [← hx], hg⟩
end
theorem leaves_cons {k : Leaf} {ks : List Leaf} : ∀ {cs : List Value}, LeavesOk (k :: ks) cs → ∃ v vs, cs = v :: vs ∧ LeafOk k v ∧ LeavesOk ks vs
  | v :: vs, h => ⟨v, vs, rfl, h.1, h.2⟩
  | [], h => h.elim
theorem leaves_nil : ∀ {cs : List Value}, LeavesOk [] cs → cs = []
  | [], _ => rfl
  | _ :: _, h => h.elim
end WithText
end Go.Proofs.YtmmclabkkigiaaaDoor

namespace Go.Proofs.YtmmclabkkigiaaaDoor
open Go.ChangeShapes Go.WideShapes Go.ChangeAt Go.RowKit Go.Deep
set_option linter.unusedVariables false

theorem leaf_St14 (cs0 : List Value) (e0 : WithText.LeavesOk [.int .u8, .int .i64, .int .u64, .int .u64, .string, .bool] cs0) : ∃ x, cs0 = kSt14.elem x ∧ good_St14 x := by
  obtain ⟨_, cs1, rfl, ⟨z0, rfl, b0⟩, e1⟩ := WithText.leaves_cons e0
  obtain ⟨_, cs2, rfl, ⟨z1, rfl, b1⟩, e2⟩ := WithText.leaves_cons e1
  obtain ⟨_, cs3, rfl, ⟨z2, rfl, b2⟩, e3⟩ := WithText.leaves_cons e2
  obtain ⟨_, cs4, rfl, ⟨z3, rfl, b3⟩, e4⟩ := WithText.leaves_cons e3
  obtain ⟨_, cs5, rfl, ⟨z4, rfl, _⟩, e5⟩ := WithText.leaves_cons e4
  obtain ⟨_, cs6, rfl, ⟨z5, rfl⟩, e6⟩ := WithText.leaves_cons e5
  obtain rfl := WithText.leaves_nil e6
  simp [Lit.wf, IntKind.min, IntKind.max, IntKind.signed, IntKind.bits] at b0 b1 b2 b3
  refine ⟨⟨z0, z1, z2, z3, z4, z5⟩, rfl, ?_⟩
  simp only [good_St14]
  omega
theorem read_St14 {H : Type} {enc : TypeId × Value → H} {w : World} {base : Nat} {sp : Nat → Bool} (n : Nat) (cs : List Value) (y : DataW H × List MemPlace) (_ : cs.length = kSt14.size) (h : DataW.trod enc Tryd.prog w base sp true n kSt14.e cs = some y) :
    ∃ x, cs = kSt14.elem x ∧ good_St14 x := leaf_St14 cs (WithText.leaves_ok (P := Tryd.prog) 6 kSt14.e [.int .u8, .int .i64, .int .u64, .int .u64, .string, .bool] _ _ _ (by kernel_rfl) h)

theorem leaf_Geo (cs0 : List Value) (e0 : LeavesOk [.int .i64, .int .i64, .int .i64] cs0) : ∃ x, cs0 = kGeo.elem x ∧ good_Geo x := by
  obtain ⟨_, cs1, rfl, ⟨z0, rfl, b0⟩, e1⟩ := leaves_cons e0
  obtain ⟨_, cs2, rfl, ⟨z1, rfl, b1⟩, e2⟩ := leaves_cons e1
  obtain ⟨_, cs3, rfl, ⟨z2, rfl, b2⟩, e3⟩ := leaves_cons e2
  obtain rfl := leaves_nil e3
  simp [Lit.wf, IntKind.min, IntKind.max, IntKind.signed, IntKind.bits] at b0 b1 b2
  refine ⟨⟨z0, z1, z2⟩, rfl, ?_⟩
  simp only [good_Geo]
  omega
end Go.Proofs.YtmmclabkkigiaaaDoor

namespace Go.Proofs.YtmmclabkkigiaaaDoor
open Go
set_option maxRecDepth 100000 in
theorem seat_make : (Tryd.prog.make == some Rows.blocksNilRow.make) = true := by kernel_rfl
end Go.Proofs.YtmmclabkkigiaaaDoor

namespace Go.Proofs.YtmmclabkkigiaaaDoor
open Go
set_option maxRecDepth 100000 in
theorem seat_lifted : (Rows.blocksNilRow.lifted == Tryd.prog.liftsFinal) = true := by kernel_rfl
end Go.Proofs.YtmmclabkkigiaaaDoor

namespace Go.Proofs.YtmmclabkkigiaaaDoor
open Go
set_option maxRecDepth 100000 in
theorem seat_enter : Tryd.prog.mayEnter = true := by kernel_rfl
end Go.Proofs.YtmmclabkkigiaaaDoor

namespace Go.Proofs.YtmmclabkkigiaaaDoor
open Go Go.RowKit
set_option linter.unusedSimpArgs false
set_option linter.unusedVariables false

set_option maxRecDepth 100000 in
theorem seat_main : Tryd.prog.mainIs = some (true, "b301206068d09c589c049a84439cfac397fcf30fe99f46c51841731a95e690b1".toList) := by kernel_rfl
end Go.Proofs.YtmmclabkkigiaaaDoor

namespace Go.Proofs.YtmmclabkkigiaaaDoor
open Go Go.RowKit
set_option linter.unusedSimpArgs false
set_option linter.unusedVariables false

set_option maxRecDepth 100000 in
theorem seat_looks : false = Tryd.prog.looks [] := by kernel_rfl
end Go.Proofs.YtmmclabkkigiaaaDoor
