/- Texts, one behind the other: Pf, Pt, PEd, PEc, PEe, PEf, Sy, PLeFu, A5G, PEg, PEh, PEi, Ks, Sz. -/
import Derived.Laws.Concat
import Derived.Test.YtmmclabkkigiaaaGreatDoorQET6
set_option linter.unusedVariables false
set_option linter.unusedSimpArgs false
namespace Go.Proofs.YtmmclabkkigiaaaGreatDoor
open Go Go.RowKit
set_option linter.unusedVariables false

theorem getD_set {α : Type} {l : List α} {i k : Nat} {x d : α} (hi : i < l.length) : (l.set i x).getD k d = if k = i then x else l.getD k d := by
  rw [List.getD_eq_getElem?_getD, List.getD_eq_getElem?_getD, List.getElem?_set]
  by_cases h : i = k
  · subst h
    rw [if_pos rfl, if_pos rfl, if_pos hi]; rfl
  · rw [if_neg h, if_neg (fun e => h e.symm)]
theorem fmt_get {gw gi gb : Int} (hm : May gw gi gb) {k : Nat} (hk : (k : Int) < wordsOf gw gi gb) :
    (fmtW gw gi gb).getD k 0 = if (k : Int) = 297 + 208 * gw then 1 else if (k : Int) = 296 + 208 * gw then 2 else if (k : Int) = 272 + 208 * gw then 1 else if (k : Int) = 264 + 208 * gw then 3 else
      if k = 3 then gb else if k = 2 then gi else if k = 1 then gw else if k = 0 then 32762617960297063 else 0 := by
  have hm_ := may_out hm
  have hw := words_may hm
  have p6 := place6 hm
  have p7 := place7 hm
  have p8 := place8_in (n := 1) hm (by omega)
  have hl : (List.replicate (wordsOf gw gi gb).toNat (0 : Int)).length = (wordsOf gw gi gb).toNat := List.length_replicate
  unfold fmtW
  rw [if_pos hm, getD_set (by simp only [List.length_set, hl]; omega), getD_set (by simp only [List.length_set, hl]; omega), getD_set (by simp only [List.length_set, hl]; omega), getD_set (by simp only [List.length_set, hl]; omega),
    getD_set (by simp only [List.length_set, hl]; omega), getD_set (by simp only [List.length_set, hl]; omega), getD_set (by simp only [List.length_set, hl]; omega), getD_set (by simp only [hl]; omega)]
  have e0 : (List.replicate (wordsOf gw gi gb).toNat (0 : Int)).getD k 0 = 0 := by
    rw [List.getD_eq_getElem?_getD, List.getElem?_replicate]
    split <;> rfl
  rw [e0, p6, p7, p8]
  have c1 : (k = (280 + 208 * gw + 16 * 1 + 1).toNat) ↔ ((k : Int) = 297 + 208 * gw) := by omega
  have c2 : (k = (280 + 208 * gw + 16 * 1).toNat) ↔ ((k : Int) = 296 + 208 * gw) := by omega
  have c3 : (k = (272 + 208 * gw).toNat) ↔ ((k : Int) = 272 + 208 * gw) := by omega
  have c4 : (k = (264 + 208 * gw).toNat) ↔ ((k : Int) = 264 + 208 * gw) := by omega
  simp only [c1, c2, c3, c4]
theorem fmt_vget {gw gi gb : Int} (hm : May gw gi gb) {k : Int} (hk : 0 ≤ k ∧ k < wordsOf gw gi gb) :
    vget (fmtW gw gi gb) [] k = if k = 297 + 208 * gw then 1 else if k = 296 + 208 * gw then 2 else if k = 272 + 208 * gw then 1 else if k = 264 + 208 * gw then 3 else
      if k = 3 then gb else if k = 2 then gi else if k = 1 then gw else if k = 0 then 32762617960297063 else 0 := by
  obtain ⟨n, rfl⟩ := Int.eq_ofNat_of_zero_le hk.1
  have hl := fmtW_len gw gi gb
  have h := fmt_get hm (k := n) hk.2
  rw [vget_nil (by omega), h]
  have e3 : ((n : Int) = 3) ↔ (n = 3) := by omega
  have e2 : ((n : Int) = 2) ↔ (n = 2) := by omega
  have e1 : ((n : Int) = 1) ↔ (n = 1) := by omega
  have e0 : ((n : Int) = 0) ↔ (n = 0) := by omega
  simp only [e3, e2, e1, e0]
theorem fmt_ibits {gw gi gb : Int} (hm : May gw gi gb) {i : Nat} (hi : i < 64) : mbits (fmtW gw gi gb) [] (264 + 208 * gw) i = decide (i < 2) := by
  have hm_ := may_out hm
  have hw := words_may hm
  unfold mbits
  rw [show i / 64 = 0 by omega, show i % 64 = i by omega, fmt_vget hm (by omega), if_neg (by omega), if_neg (by omega), if_neg (by omega), if_pos (by omega)]
  have h : ∀ j : Fin 64, bitI 3 j.val = decide (j.val < 2) := by decide +kernel
  exact h ⟨i, hi⟩
theorem fmt_bbits {gw gi gb : Int} (hm : May gw gi gb) {i : Nat} (hi : i < 512) : mbits (fmtW gw gi gb) [] (272 + 208 * gw) i = decide (i = 0) := by
  have hm_ := may_out hm
  have hw := words_may hm
  unfold mbits
  by_cases h0 : i / 64 = 0
  · rw [h0, show i % 64 = i by omega, fmt_vget hm (by omega), if_neg (by omega), if_neg (by omega), if_pos (by omega)]
    have h : ∀ j : Fin 64, bitI 1 j.val = decide (j.val = 0) := by decide +kernel
    exact h ⟨i, by omega⟩
  · rw [fmt_vget hm (by omega), if_neg (by omega), if_neg (by omega), if_neg (by omega), if_neg (by omega), if_neg (by omega), if_neg (by omega), if_neg (by omega), if_neg (by omega), bitI_zero, decide_eq_false (by omega)]
end Go.Proofs.YtmmclabkkigiaaaGreatDoor

namespace Go.Proofs.YtmmclabkkigiaaaGreatDoor
open Go Go.RowKit
set_option linter.unusedVariables false

theorem mbits_flat {img : List Int} {l : List (Int × Int)} (hok : VOk img l) (at_ : Int) : mbits (vflat img l) [] at_ = mbits img l at_ := by
  funext j
  unfold mbits
  rw [vget_flat hok]
theorem clear_ok {img : List Int} : ∀ {ns : List Int} {l : List (Int × Int)}, VOk img l → VR img l → (∀ n ∈ ns, 0 ≤ n ∧ n < (img.length : Int)) → l.length + ns.length ≤ 96 →
    ∃ l', clearF img l ns = (0, l') ∧ VOk img l' ∧ VR img l' ∧ l'.length ≤ l.length + ns.length ∧ ∀ k, vget img l' k = if k ∈ ns then 0 else vget img l k
  | [], l, hok, hv, _, _ => ⟨l, rfl, hok, hv, by simp, fun k => by simp⟩
  | n :: ns, l, hok, hv, hr, hl => by
    simp only [List.length_cons] at hl
    have hn := hr n (by simp)
    have hlen := vput_len img l n 0
    unfold clearF
    rw [vput_in hn (by omega)] at hlen ⊢
    simp only at hlen ⊢
    obtain ⟨l', h1, h2, h3, h4, h5⟩ := clear_ok (ns := ns) (l := vset l n 0) (hok.put hn (.inr (by omega))) (hv.put hn u64_zero) (fun m hm => hr m (by simp [hm])) (by omega)
    refine ⟨l', by rw [if_pos trivial]; exact h1, h2, h3, by simp only [List.length_cons]; omega, fun k => ?_⟩
    rw [h5, vget_vset hn]
    by_cases e : k = n
    · subst e; simp
    · simp [e]
theorem mem_own {p k : Int} : k ∈ ownL p ↔ p ≤ k ∧ k < p + 8 := by
  unfold ownL
  simp only [List.mem_cons, List.not_mem_nil, or_false]
  omega

structure Gd (gi gb : Int) (ws : List Int) (fi fb : Nat → Bool) : Prop where
  may : May 1 gi gb
  len : (ws.length : Int) = wordsOf 1 gi gb
  u64 : ∀ x ∈ ws, U64 x
  ib : ∀ j, j < gi.toNat → mbits ws [] 472 j = fi j
  bb : ∀ j, j < gb.toNat → mbits ws [] 480 j = fb j
section
variable {gi gb : Int} {ws : List Int} {fi fb : Nat → Bool}
theorem Gd.ok (h : Gd gi gb ws fi fb) : VOk ws [] ∧ VR ws [] ∧ (ws.length : Int) = 488 + 16 * gi + 8 * gb ∧ ws.length ≤ 6232 := by
  have hm_ := may_out h.may
  have hw := words_may h.may
  have hl := h.len
  exact ⟨VOk.nil (by omega), VR.nil h.u64, by omega, by omega⟩
theorem Gd.fmt (hm : May 1 gi gb) : Gd gi gb (fmtW 1 gi gb) (fun j => decide (j < 2)) (fun j => decide (j = 0)) := by
  have hm_ := may_out hm
  have hl := fmtW_len 1 gi gb
  have hw := words_may hm
  exact ⟨hm, by omega, fmtW_u64, fun j hj => fmt_ibits hm (by omega), fun j hj => fmt_bbits hm (by omega)⟩
theorem Gd.flat (h : Gd gi gb ws fi fb) {l : List (Int × Int)} (hok : VOk ws l) (hv : VR ws l) {fi' fb' : Nat → Bool} (h1 : ∀ j, j < gi.toNat → mbits ws l 472 j = fi' j) (h2 : ∀ j, j < gb.toNat → mbits ws l 480 j = fb' j) : Gd gi gb (vflat ws l) fi' fb' :=
  ⟨h.may, by rw [vflat_length]; exact h.len, u64_flat hok hv, fun j hj => by rw [mbits_flat hok]; exact h1 j hj, fun j hj => by rw [mbits_flat hok]; exact h2 j hj⟩
theorem Gd.lstB (h : Gd gi gb ws fi fb) : lst (mbits ws [] 480) gb.toNat = lst fb gb.toNat := by
  rcases lst_cases fb gb.toNat with ⟨i, h1, h2, h3, h4⟩ | ⟨h1, h4⟩
  · rw [h4, lst_at h1 ((h.bb i h1).trans h2) (fun j hj => (h.bb j (by omega)).trans (h3 j hj))]
  · rw [h4, lst_full fun j hj => (h.bb j hj).trans (h1 j hj)]
theorem Gd.setB (h : Gd gi gb ws fi fb) {n : Int} {b : Bool} (hn : 0 ≤ n ∧ n < gb) :
    ∃ l, msetF ws [] 480 gb n b = (0, l) ∧ VOk ws l ∧ VR ws l ∧ l.length ≤ 1 ∧ (∀ k, ¬ (480 ≤ k ∧ k < 488) → vget ws l k = vget ws [] k) ∧ (∀ j, mbits ws l 480 j = if j = n.toNat then b else mbits ws [] 480 j) ∧ (∀ j, j < 64 → mbits ws l 472 j = mbits ws [] 472 j) := by
  obtain ⟨ho, hv, hl, hl2⟩ := h.ok
  have hm_ := may_out h.may
  obtain ⟨l, h1, h2, h3, h4, _, h6, h7⟩ := mset_in (is_ := b) (at_ := 480) (i_ := n) (many := gb) hv ho (by omega) (by omega) (by simp)
  refine ⟨l, h1, h3, h2, by simpa using h4, fun k hk => ?_, h7, fun j hj => ?_⟩
  · rw [h6, if_neg (by omega)]
  · unfold mbits
    rw [h6, if_neg (by omega)]
theorem place9_in {n : Int} (hm : May 1 gi gb) (hn : 0 ≤ n ∧ n < gb) : placeOf 9 1 gi gb n = 488 + 16 * gi + 8 * n := by
  unfold placeOf
  rw [if_pos hm]
  simp only [hn, and_self, if_true]
  omega
theorem Gd.takeB (h : Gd gi gb ws fi fb) :
    (∃ i l, i < gb.toNat ∧ fb i = false ∧ (∀ j, j < i → fb j = true) ∧ takeBF ws [] 1 gi gb 480 = ((i : Int), 0, l) ∧ VOk ws l ∧ VR ws l ∧ l.length ≤ 9 ∧ (∀ k, 488 + 16 * gi + 8 * (i : Int) ≤ k ∧ k < 488 + 16 * gi + 8 * (i : Int) + 8 → vget ws l k = 0) ∧
      (∀ k, ¬ (480 ≤ k ∧ k < 488) → ¬ (488 + 16 * gi + 8 * (i : Int) ≤ k ∧ k < 488 + 16 * gi + 8 * (i : Int) + 8) → vget ws l k = vget ws [] k) ∧ Gd gi gb (vflat ws l) fi (fun j => if j = i then true else fb j)) ∨
    ((∀ j, j < gb.toNat → fb j = true) ∧ takeBF ws [] 1 gi gb 480 = (0, 7, [])) := by
  obtain ⟨ho, hv, hl, hl2⟩ := h.ok
  have hm_ := may_out h.may
  rcases lst_cases fb gb.toNat with ⟨i, h1, h2, h3, h4⟩ | ⟨h1, h4⟩
  · refine .inl ?_
    obtain ⟨l, a1, a2, a3, a4, a5, a6, a7⟩ := h.setB (n := (i : Int)) (b := true) (by omega)
    have hp := place9_in (n := (i : Int)) h.may (by omega)
    obtain ⟨l', c1, c2, c3, c4, c5⟩ := clear_ok (ns := ownL (488 + 16 * gi + 8 * (i : Int))) a2 a3 (fun n hn => by rw [mem_own] at hn; omega) (by rw [show (ownL (488 + 16 * gi + 8 * (i : Int))).length = 8 from rfl]; omega)
    have c5' : ∀ k, vget ws l' k = if 488 + 16 * gi + 8 * (i : Int) ≤ k ∧ k < 488 + 16 * gi + 8 * (i : Int) + 8 then 0 else vget ws l k := fun k => by rw [c5]; simp only [mem_own]
    rw [show (ownL (488 + 16 * gi + 8 * (i : Int))).length = 8 from rfl] at c4
    refine ⟨i, l', h1, h2, h3, ?_, c2, c3, by omega, fun k hk => by rw [c5', if_pos hk], fun k hk1 hk2 => by rw [c5', if_neg hk2, a5 k hk1], ?_⟩
    · unfold takeBF
      rw [h.lstB, h4]
      simp only
      rw [if_pos trivial, a1, if_pos rfl, hp]
      simp only
      rw [c1, if_pos rfl]
    · refine h.flat c2 c3 (fun j hj => ?_) fun j hj => ?_
      · rw [← h.ib j hj, ← a7 j (by omega)]
        unfold mbits
        rw [c5', if_neg (by omega)]
      · rw [← h.bb j hj]
        have e := a6 j
        rw [Int.toNat_natCast] at e
        rw [← e]
        unfold mbits
        rw [c5', if_neg (by omega)]
  · refine .inr ⟨h1, ?_⟩
    unfold takeBF
    rw [h.lstB, h4]
    rfl
theorem Gd.free (h : Gd gi gb ws fi fb) {l : List (Int × Int)} (hok : VOk ws l) {fi' fb' : Nat → Bool} (h' : Gd gi gb (vflat ws l) fi' fb') : freeF ws l gi gb 472 480 = (gi - (cnt fi' gi.toNat : Nat), gb - (cnt fb' gb.toNat : Nat)) := by
  have e1 : cnt (mbits ws l 472) gi.toNat = cnt fi' gi.toNat := cnt_congr fun j hj => by rw [← mbits_flat hok]; exact h'.ib j hj
  have e2 : cnt (mbits ws l 480) gb.toNat = cnt fb' gb.toNat := cnt_congr fun j hj => by rw [← mbits_flat hok]; exact h'.bb j hj
  unfold freeF
  rw [e1, e2]
theorem Gd.congr (h : Gd gi gb ws fi fb) {fi' fb' : Nat → Bool} (h1 : ∀ j, j < gi.toNat → fi j = fi' j) (h2 : ∀ j, j < gb.toNat → fb j = fb' j) : Gd gi gb ws fi' fb' :=
  ⟨h.may, h.len, h.u64, fun j hj => (h.ib j hj).trans (h1 j hj), fun j hj => (h.bb j hj).trans (h2 j hj)⟩
end
end Go.Proofs.YtmmclabkkigiaaaGreatDoor

namespace Go.Proofs.YtmmclabkkigiaaaGreatDoor
open Go Go.RowKit
set_option linter.unusedVariables false
set_option linter.unusedSimpArgs false

structure Dk (gi gb : Int) (img : List Int) (l : List (Int × Int)) : Prop where
  may : May 1 gi gb
  len : (img.length : Int) = 488 + 16 * gi + 8 * gb
  vr : VR img l
  ok : VOk img l
section
variable {gi gb : Int} {img : List Int} {l : List (Int × Int)}
theorem Dk.g (h : Dk gi gb img l) : (2 ≤ gi ∧ gi ≤ 64) ∧ (2 ≤ gb ∧ gb ≤ 512) := (may_out h.may).2
theorem Dk.words (h : Dk gi gb img l) : wordsOf 1 gi gb = (img.length : Int) := by
  have := words_may h.may
  have := h.len
  omega
theorem Dk.write (h : Dk gi gb img l) {a x : Int} (ha : 0 ≤ a ∧ a < (img.length : Int)) (hx : U64 x) (hl : l.length < 96) :
    ∃ m, vwrite img l a x = (0, m) ∧ Dk gi gb img m ∧ m.length ≤ l.length + 1 ∧ ∀ z, vget img m z = if z = a then x else vget img l z := by
  unfold vwrite
  rw [if_neg (by omega)]
  by_cases e : vget img l a = x
  · rw [if_pos e]
    refine ⟨l, rfl, h, by omega, fun z => ?_⟩
    by_cases hz : z = a
    · rw [if_pos hz, hz, e]
    · rw [if_neg hz]
  · rw [if_neg e, vput_in ha hl]
    have hlen := vput_len img l a x
    rw [vput_in ha hl] at hlen
    exact ⟨_, rfl, ⟨h.may, h.len, h.vr.put ha hx, h.ok.put ha (.inr hl)⟩, hlen, fun z => vget_vset ha⟩
theorem mbits_congr {img' : List Int} {l' : List (Int × Int)} {at_ : Int} {j : Nat} (h : vget img l (at_ + ((j / 64 : Nat) : Int)) = vget img' l' (at_ + ((j / 64 : Nat) : Int))) : mbits img l at_ j = mbits img' l' at_ j := by
  unfold mbits
  rw [h]
theorem Dk.take (h : Dk gi gb img l) {i : Nat} (hi : i < gb.toNat) (h1 : 1 ≤ i) (hf : mbits img l 480 i = false) (hlow : ∀ j, j < i → mbits img l 480 j = true) {at_ : Int} (ha : 488 ≤ at_ ∧ at_ < (img.length : Int))
    (hat : ¬ (488 + 16 * gi + 8 * (i : Int) ≤ at_ ∧ at_ < 488 + 16 * gi + 8 * (i : Int) + 8)) (hl : l.length + 10 ≤ 96) :
    ∃ m, btake_M img l 1 gi gb at_ = some ((i : Int), 0, m) ∧ Dk gi gb img m ∧ m.length ≤ l.length + 10 ∧
      (∀ z, ¬ (480 ≤ z ∧ z < 488) → vget img m z = if z = at_ then (i : Int) else if 488 + 16 * gi + 8 * (i : Int) ≤ z ∧ z < 488 + 16 * gi + 8 * (i : Int) + 8 then 0 else vget img l z) ∧
      (∀ j, j < 512 → mbits img m 480 j = if j = i then true else mbits img l 480 j) := by
  have hg := h.g
  have hlen := h.len
  obtain ⟨l1, a1, a2, a3, a4, _, a6, a7⟩ := mset_in (is_ := true) (at_ := 480) (i_ := (i : Int)) (many := gb) h.vr h.ok (by omega) (by omega) (by omega)
  have hp := place9_in (n := (i : Int)) h.may (by omega)
  obtain ⟨l2, c1, c2, c3, c4, c5⟩ := clear_ok (ns := ownL (488 + 16 * gi + 8 * (i : Int))) a3 a2 (fun n hn => by rw [mem_own] at hn; omega) (by rw [show (ownL (488 + 16 * gi + 8 * (i : Int))).length = 8 from rfl]; omega)
  rw [show (ownL (488 + 16 * gi + 8 * (i : Int))).length = 8 from rfl] at c4
  have hd2 : Dk gi gb img l2 := ⟨h.may, h.len, c3, c2⟩
  obtain ⟨m, d1, d2, d3, d4⟩ := hd2.write (a := at_) (x := (i : Int)) (by omega) (by unfold U64; omega) (by omega)
  have hT : takeBF img l 1 gi gb 480 = ((i : Int), 0, l2) := by
    unfold takeBF
    rw [lst_at hi hf hlow]
    simp only
    rw [if_pos trivial, a1, if_pos rfl, hp]
    simp only
    rw [c1, if_pos rfl]
  refine ⟨m, ?_, d2, by omega, fun z hz => ?_, fun j hj => ?_⟩
  · unfold btake_M
    have hw := h.words
    have hI : ¬ ((i : Int) = 0) := by omega
    refine need_of (by omega) ?_
    rw [if_pos ⟨h.may, by omega⟩, place7 h.may]
    simp only [Int.reduceMul, Int.reduceAdd]
    rw [atakeb_ok h.vr (by omega) (by omega), hT]
    simp only [Option.bind, if_true, if_neg hI]
    unfold btake_J1
    rw [if_pos rfl]
    refine need_of (by omega) ?_
    simp only [Option.bind, d1]
    unfold btake_J2
    rw [if_pos rfl]
  · rw [d4, c5]
    by_cases e : z = at_
    · rw [if_pos e, if_pos e]
    · rw [if_neg e, if_neg e]
      simp only [mem_own]
      split
      · rfl
      · rw [a6, if_neg (by omega)]
  · have e1 := a7 j
    rw [Int.toNat_natCast] at e1
    rw [← e1]
    refine mbits_congr ?_
    rw [d4, if_neg (by omega), c5]
    simp only [mem_own]
    rw [if_neg (by omega)]
theorem Dk.give (h : Dk gi gb img l) {b : Int} (hb : 1 ≤ b ∧ b < gb) (hu : mbits img l 480 b.toNat = true) {at_ : Int} (ha : 488 ≤ at_ ∧ at_ < (img.length : Int)) (hl : l.length + 2 ≤ 96) :
    ∃ m, bgive_M img l 1 gi gb at_ b = some (0, m) ∧ Dk gi gb img m ∧ m.length ≤ l.length + 2 ∧ (∀ z, ¬ (480 ≤ z ∧ z < 488) → vget img m z = if z = at_ then 0 else vget img l z) ∧
      (∀ j, j < 512 → mbits img m 480 j = if j = b.toNat then false else mbits img l 480 j) := by
  have hg := h.g
  have hlen := h.len
  obtain ⟨l1, a1, a2, a3, a4, _, a6, a7⟩ := mset_in (is_ := false) (at_ := 480) (i_ := b) (many := gb) h.vr h.ok (by omega) (by omega) (by omega)
  have hd1 : Dk gi gb img l1 := ⟨h.may, h.len, a2, a3⟩
  obtain ⟨m, d1, d2, d3, d4⟩ := hd1.write (a := at_) (x := 0) (by omega) u64_zero (by omega)
  refine ⟨m, ?_, d2, by omega, fun z hz => ?_, fun j hj => ?_⟩
  · unfold bgive_M
    have hw := h.words
    refine need_of (by omega) ?_
    rw [if_pos ⟨h.may, by omega⟩, place7 h.may]
    simp only [Int.reduceMul, Int.reduceAdd]
    have hG : giveF img l 480 gb b = (0, l1) := by
      unfold giveF
      rw [if_pos hb, if_pos hu, a1]
    have hA : agiveb_M img l gb 480 b = some (0, l1) := by
      unfold agiveb_M
      exact bind_of ((agive_ok h.vr (by omega) (by omega)).trans (congrArg some hG)) rfl
    rw [hA]
    simp only [Option.bind, if_true, d1]
  · rw [d4]
    by_cases e : z = at_
    · rw [if_pos e, if_pos e]
    · rw [if_neg e, if_neg e, a6, if_neg (by omega)]
  · rw [← a7 j]
    refine mbits_congr ?_
    rw [d4, if_neg (by omega)]
end

structure Hd where
  k : Int
  l : Int
  o : Int
  s : Int
  m : Int
def HdOk (gi : Int) (h : Hd) : Prop := h.m < gi ∧ (h.l ≤ 65536 ∧ h.o ≤ 16 ∧ h.s ≤ 768) ∧ ((h.k = 1 ∧ h.m = 0) ∨ (h.k = 2 ∧ h.s = 0))
structure Mp (gi gb : Int) (img : List Int) (l : List (Int × Int)) (n : Int) (O : Nat → Prop) (h : Hd) (f : Nat → Int) (c : Int) : Prop where
  dk : Dk gi gb img l
  nr : 0 < n ∧ n < gi
  hd : HdOk gi h
  w0 : vget img l (488 + 16 * n) = h.k
  w1 : vget img l (489 + 16 * n) = h.l
  w2 : vget img l (490 + 16 * n) = h.o
  w3 : vget img l (491 + 16 * n) = h.s
  w9 : vget img l (497 + 16 * n) = h.m
  wd : ∀ k : Nat, k < 4 → vget img l (492 + 16 * n + (k : Int)) = f k
  w8 : vget img l (496 + 16 * n) = c
  we : ∀ k : Nat, 4 ≤ k → k < 12 → f k = if c = 0 then 0 else vget img l (484 + 16 * gi + 8 * c + (k : Int))
  rf : ∀ k, k < 12 → 0 ≤ f k ∧ f k < gb
  rc : 0 ≤ c ∧ c < gb
  inj : ∀ j k, j < 12 → k < 12 → f j ≠ 0 → f j = f k → j = k
  fc : ∀ k, k < 12 → c ≠ 0 → f k ≠ c
  bits : ∀ b : Nat, b < 512 → (mbits img l 480 b = true ↔ b = 0 ∨ (∃ k, k < 12 ∧ f k = (b : Int)) ∨ c = (b : Int) ∨ O b)
  od : ∀ b : Nat, O b → 0 < b ∧ (b : Int) < gb ∧ (∀ k, k < 12 → f k ≠ (b : Int)) ∧ c ≠ (b : Int)
section
variable {gi gb : Int} {img : List Int} {l : List (Int × Int)} {n : Int} {O : Nat → Prop} {hd : Hd} {f : Nat → Int} {c : Int}
theorem Mp.iget (h : Mp gi gb img l n O hd f c) : igetM img l 1 gi gb n = (⟨hd.k, hd.l, hd.o, hd.s, f 0, f 1, f 2, f 3, c, hd.m⟩, 0) := by
  have hg := h.dk.g
  have hlen := h.dk.len
  have hw := h.dk.words
  have hnr := h.nr
  have hp := place8_in (n := n) h.dk.may (by omega)
  have e : ifind (img.length : Int) 1 gi gb n = (488 + 16 * n, 0) := by
    unfold ifind
    rw [hp, if_neg (by omega), if_neg (by omega)]
    congr 1
  have hnd : ndAt img l (488 + 16 * n) = ⟨hd.k, hd.l, hd.o, hd.s, f 0, f 1, f 2, f 3, c, hd.m⟩ := by
    unfold ndAt
    have d0 := h.wd 0 (by omega)
    have d1 := h.wd 1 (by omega)
    have d2 := h.wd 2 (by omega)
    have d3 := h.wd 3 (by omega)
    rw [← h.w0, ← h.w1, ← h.w2, ← h.w3, ← h.w9, ← h.w8, ← d0, ← d1, ← d2, ← d3]
    congr 2 <;> omega
  have hR : RightP 1 gi gb ⟨hd.k, hd.l, hd.o, hd.s, f 0, f 1, f 2, f 3, c, hd.m⟩ := by
    have := h.hd
    unfold HdOk at this
    exact ⟨h.dk.may, ⟨(h.rf 0 (by omega)).2, (h.rf 1 (by omega)).2, (h.rf 2 (by omega)).2, (h.rf 3 (by omega)).2, h.rc.2, this.1⟩, this.2.1, this.2.2⟩
  unfold igetM
  rw [e]
  simp only [if_true, hnd]
  rw [if_pos hR]
theorem Mp.own (h : Mp gi gb img l n O hd f c) {w : Int} (hw : 0 ≤ w ∧ w ≤ 100) : bown_M 1 gi gb n w = some (488 + 16 * n + w) := by
  have hnr := h.nr
  have hg := h.dk.g
  have hp := place8_in (n := n) h.dk.may (by omega)
  unfold bown_M
  rw [hp]
  simp only [Option.bind]
  exact need_of (by omega) (by congr 1)
theorem Mp.chain (h : Mp gi gb img l n O hd f c) : bchain_M img l 1 gi gb n = some c := by
  have hg := h.dk.g
  have hrc := h.rc
  unfold bchain_M
  rw [h.own (by omega)]
  simp only [Option.bind]
  rw [show 488 + 16 * n + 8 = 496 + 16 * n by omega, h.w8]
  exact need_of (by omega) rfl
def wordAt (gi : Int) (n c : Int) (k : Nat) : Int := if k < 4 then 492 + 16 * n + (k : Int) else 484 + 16 * gi + 8 * c + (k : Int)
theorem Mp.word (h : Mp gi gb img l n O hd f c) {k : Nat} (hk : k < 12) : bword_M img l 1 gi gb n (k : Int) = some (wordAt gi n c k, if k < 4 then true else !decide (c = 0)) := by
  have hg := h.dk.g
  have hrc := h.rc
  have hnr := h.nr
  unfold bword_M wordAt
  by_cases h4 : k < 4
  · rw [if_neg (by omega), if_pos h4, if_pos h4]
    unfold bdirect_M
    refine bind_of (y := (492 + 16 * n + (k : Int), true)) (need_of (by omega) ?_) rfl
    rw [h.own (by omega)]
    simp only [Option.bind]
    congr 2
    omega
  · rw [if_pos (by omega), if_neg h4, if_neg h4]
    unfold bchained_M
    rw [h.chain]
    have hp := place9_in (n := c) h.dk.may (by omega)
    simp only [Option.bind, hp]
    refine bind_of (y := (484 + 16 * gi + 8 * c + (k : Int), !decide (c = 0))) (need_of (by omega) (need_of (by omega) ?_)) rfl
    congr 2
    omega
theorem Mp.wordIn (h : Mp gi gb img l n O hd f c) {k : Nat} (hk : k < 12) : 488 ≤ wordAt gi n c k ∧ wordAt gi n c k < (img.length : Int) := by
  have hg := h.dk.g
  have hrc := h.rc
  have hnr := h.nr
  have hlen := h.dk.len
  unfold wordAt
  split <;> omega
theorem Mp.wordGet (h : Mp gi gb img l n O hd f c) {k : Nat} (hk : k < 12) (hc : k < 4 ∨ c ≠ 0) : vget img l (wordAt gi n c k) = f k := by
  unfold wordAt
  by_cases h4 : k < 4
  · rw [if_pos h4]
    exact h.wd k h4
  · rw [if_neg h4, h.we k (by omega) hk, if_neg (by omega)]
theorem Mp.at (h : Mp gi gb img l n O hd f c) {k : Nat} (hk : k < 12) : bat_M img l 1 gi gb n (k : Int) = some (f k, 0) := by
  have hg := h.dk.g
  have hrf := h.rf k hk
  have J : bat_J1 img l 1 gi gb n (k : Int) = some (f k, 0) := by
    unfold bat_J1
    rw [h.iget]
    simp only [Option.bind]
    unfold bat_J2
    rw [if_pos rfl, h.word hk]
    simp only [Option.bind]
    by_cases hc : k < 4 ∨ c ≠ 0
    · have ht : (if k < 4 then true else !decide (c = 0)) = true := by
        rcases hc with hc | hc
        · rw [if_pos hc]
        · split
          · rfl
          · simp [hc]
      rw [ht, h.wordGet hk hc, if_pos rfl]
      exact need_of (by omega) (by rw [if_neg (by omega)]; exact need_of (by omega) rfl)
    · have hc0 : c = 0 := by omega
      rw [if_neg (show ¬ k < 4 by omega), hc0]
      have := h.we k (by omega) hk
      rw [if_pos hc0] at this
      rw [this]
      rfl
  unfold bat_M
  rw [if_neg (by omega), if_neg (by omega), J]
def needF (f : Nat → Int) (c : Int) (k : Nat) : Int := if f k = 0 then (if k < 4 ∨ c ≠ 0 then 1 else 2) else 0
theorem Mp.need (h : Mp gi gb img l n O hd f c) {k : Nat} (hk : k < 12) : bneed_M img l 1 gi gb n (k : Int) = some (needF f c k) := by
  unfold bneed_M needF
  rw [h.at hk]
  simp only [Option.bind, if_true]
  by_cases h0 : f k = 0
  · rw [if_pos h0, if_pos h0, h.word hk]
    simp only
    by_cases h4 : k < 4
    · rw [if_pos h4, if_pos rfl, if_pos (Or.inl h4)]
    · rw [if_neg h4]
      by_cases hc : c = 0
      · rw [hc, if_neg (by simp), if_neg (by simp; omega)]
      · rw [if_pos (by simp [hc]), if_pos (Or.inr hc)]
  · rw [if_neg h0, if_neg h0]
end

def upd (f : Nat → Int) (k : Nat) (x : Int) : Nat → Int := fun j => if j = k then x else f j
theorem upd_at (f : Nat → Int) (k : Nat) (x : Int) : upd f k x k = x := if_pos rfl
theorem upd_ne {f : Nat → Int} {k j : Nat} {x : Int} (h : j ≠ k) : upd f k x j = f j := if_neg h
section
variable {gi gb : Int} {img : List Int} {l : List (Int × Int)} {n : Int} {O : Nat → Prop} {hd : Hd} {f : Nat → Int} {c : Int}
theorem Mp.hasWord (h : Mp gi gb img l n O hd f c) {k : Nat} (hk : k < 12) (h0 : f k ≠ 0) : k < 4 ∨ c ≠ 0 := by
  rcases Nat.lt_or_ge k 4 with h4 | h4
  · exact .inl h4
  · refine .inr fun hc => h0 ?_
    rw [h.we k h4 hk, if_pos hc]
theorem Mp.used (h : Mp gi gb img l n O hd f c) {k : Nat} (hk : k < 12) (h0 : f k ≠ 0) : mbits img l 480 (f k).toNat = true := by
  have hr := h.rf k hk
  have hg := h.dk.g
  exact (h.bits _ (by omega)).2 (.inr (.inl ⟨k, hk, by omega⟩))
theorem Mp.turn (h : Mp gi gb img l n O hd f c) {m : List (Int × Int)} {k : Nat} (hk : k < 12) (hc : k < 4 ∨ c ≠ 0) {x : Int} (hx : 0 ≤ x ∧ x < gb) (hdk : Dk gi gb img m)
    (hw : ∀ z, ¬ (480 ≤ z ∧ z < 488) → (z < 488 + 16 * gi ∨ (c ≠ 0 ∧ 488 + 16 * gi + 8 * c ≤ z ∧ z < 488 + 16 * gi + 8 * c + 8)) → vget img m z = if z = wordAt gi n c k then x else vget img l z)
    (hinj : ∀ j, j < 12 → j ≠ k → x ≠ 0 → f j ≠ x) (hxc : x ≠ 0 → c ≠ x) (hbits : ∀ b : Nat, b < 512 → (mbits img m 480 b = true ↔ b = 0 ∨ (∃ j, j < 12 ∧ upd f k x j = (b : Int)) ∨ c = (b : Int) ∨ O b)) (hox : ∀ b : Nat, O b → x ≠ (b : Int)) :
    Mp gi gb img m n O hd (upd f k x) c := by
  have hg := h.dk.g
  have hnr := h.nr
  have hrc := h.rc
  have hwa : wordAt gi n c k = if k < 4 then 492 + 16 * n + (k : Int) else 484 + 16 * gi + 8 * c + (k : Int) := rfl
  have hne : ∀ z, (488 + 16 * n ≤ z ∧ z < 492 + 16 * n) ∨ z = 496 + 16 * n ∨ z = 497 + 16 * n → vget img m z = vget img l z := by
    intro z hz
    rw [hw z (by omega) (.inl (by omega)), if_neg]
    rw [hwa]
    by_cases hk4 : k < 4
    · rw [if_pos hk4]; omega
    · rw [if_neg hk4]; omega
  refine ⟨hdk, hnr, h.hd, ?_, ?_, ?_, ?_, ?_, fun j hj => ?_, ?_, fun j hj1 hj2 => ?_, fun j hj => ?_, hrc, fun i j hi hj h1 h2 => ?_, fun j hj hc0 => ?_, hbits, fun b hb => ?_⟩
  · rw [hne _ (by omega)]; exact h.w0
  · rw [hne _ (by omega)]; exact h.w1
  · rw [hne _ (by omega)]; exact h.w2
  · rw [hne _ (by omega)]; exact h.w3
  · rw [hne _ (by omega)]; exact h.w9
  · rw [hw _ (by omega) (.inl (by omega)), hwa]
    by_cases e : j = k
    · subst e
      rw [upd_at, if_pos hj, if_pos rfl]
    · rw [upd_ne e]
      by_cases hk4 : k < 4
      · rw [if_pos hk4, if_neg (by omega)]
        exact h.wd j hj
      · rw [if_neg hk4, if_neg (by omega)]
        exact h.wd j hj
  · rw [hne _ (by omega)]; exact h.w8
  · by_cases hc0 : c = 0
    · rw [if_pos hc0]
      have hk4 : k < 4 := by omega
      rw [upd_ne (by omega), h.we j hj1 hj2, if_pos hc0]
    · rw [if_neg hc0, hw _ (by omega) (.inr ⟨hc0, by omega⟩), hwa]
      by_cases e : j = k
      · subst e
        rw [upd_at, if_neg (show ¬ j < 4 by omega), if_pos rfl]
      · rw [upd_ne e, h.we j hj1 hj2, if_neg hc0]
        by_cases hk4 : k < 4
        · rw [if_pos hk4, if_neg (by omega)]
        · rw [if_neg hk4, if_neg (by omega)]
  · unfold upd
    split
    · exact hx
    · exact h.rf j hj
  · unfold upd at h1 h2
    by_cases e1 : i = k
    · by_cases e2 : j = k
      · omega
      · rw [if_pos e1] at h1 h2
        rw [if_neg e2] at h2
        exact absurd h2.symm (hinj j hj e2 h1)
    · rw [if_neg e1] at h1 h2
      by_cases e2 : j = k
      · rw [if_pos e2] at h2
        rw [h2] at h1
        exact absurd h2 (hinj i hi e1 h1)
      · rw [if_neg e2] at h2
        exact h.inj i j hi hj h1 h2
  · unfold upd
    split
    · intro e
      exact hxc (by omega) e.symm
    · exact h.fc j hj hc0
  · obtain ⟨o1, o2, o3, o4⟩ := h.od b hb
    refine ⟨o1, o2, fun j hj => ?_, o4⟩
    unfold upd
    split
    · exact hox b hb
    · exact o3 j hj
theorem Mp.giveW (h : Mp gi gb img l n O hd f c) {k : Nat} (hk : k < 12) (h0 : f k ≠ 0) (hl : l.length + 2 ≤ 96) :
    ∃ m, bgive_M img l 1 gi gb (wordAt gi n c k) (f k) = some (0, m) ∧ m.length ≤ l.length + 2 ∧ Mp gi gb img m n O hd (upd f k 0) c ∧ ∀ z, ¬ (480 ≤ z ∧ z < 488) → z ≠ wordAt gi n c k → vget img m z = vget img l z := by
  have hg := h.dk.g
  have hr := h.rf k hk
  obtain ⟨m, g1, g2, g3, g4, g5⟩ := h.dk.give (b := f k) (by omega) (h.used hk h0) (h.wordIn hk) hl
  refine ⟨m, g1, g3, h.turn hk (h.hasWord hk h0) (x := 0) (by omega) g2 (fun z hz _ => g4 z hz) (by omega) (by omega) (fun b hb => ?_) (fun b hb => by have := h.od b hb; omega), fun z hz hz2 => by rw [g4 z hz, if_neg hz2]⟩
  rw [g5 b hb]
  by_cases e : b = (f k).toNat
  · rw [if_pos e]
    refine ⟨fun q => absurd q (by decide), fun q => ?_⟩
    exfalso
    rcases q with q | ⟨j, hj, q⟩ | q | q
    · omega
    · unfold upd at q
      by_cases ej : j = k
      · rw [if_pos ej] at q; omega
      · rw [if_neg ej] at q
        exact ej (h.inj j k hj hk (by omega) (by omega))
    · exact h.fc k hk (by omega) (by omega)
    · exact (h.od b q).2.2.1 k hk (by omega)
  · rw [if_neg e, h.bits b hb]
    constructor
    · rintro (q | ⟨j, hj, q⟩ | q | q)
      · exact .inl q
      · by_cases ej : j = k
        · subst ej; omega
        · exact .inr (.inl ⟨j, hj, by rw [upd_ne ej]; exact q⟩)
      · exact .inr (.inr (.inl q))
      · exact .inr (.inr (.inr q))
    · rintro (q | ⟨j, hj, q⟩ | q | q)
      · exact .inl q
      · by_cases ej : j = k
        · subst ej; rw [upd_at] at q; exact .inl (by omega)
        · rw [upd_ne ej] at q; exact .inr (.inl ⟨j, hj, q⟩)
      · exact .inr (.inr (.inl q))
      · exact .inr (.inr (.inr q))
theorem Mp.giveC (h : Mp gi gb img l n O hd f c) (hc : c ≠ 0) (hz : ∀ k, 4 ≤ k → k < 12 → f k = 0) (hl : l.length + 2 ≤ 96) :
    ∃ m, bgive_M img l 1 gi gb (496 + 16 * n) c = some (0, m) ∧ m.length ≤ l.length + 2 ∧ Mp gi gb img m n O hd f 0 ∧ ∀ z, ¬ (480 ≤ z ∧ z < 488) → z ≠ 496 + 16 * n → vget img m z = vget img l z := by
  have hg := h.dk.g
  have hrc := h.rc
  have hnr := h.nr
  have hlen := h.dk.len
  obtain ⟨m, g1, g2, g3, g4, g5⟩ := h.dk.give (b := c) (by omega) ((h.bits _ (by omega)).2 (.inr (.inr (.inl (by omega))))) (at_ := 496 + 16 * n) (by omega) hl
  have hne : ∀ z, ¬ (480 ≤ z ∧ z < 488) → z ≠ 496 + 16 * n → vget img m z = vget img l z := fun z h1 h2 => by rw [g4 z h1, if_neg h2]
  refine ⟨m, g1, g3, ⟨g2, hnr, h.hd, ?_, ?_, ?_, ?_, ?_, fun j hj => ?_, ?_, fun j hj1 hj2 => ?_, h.rf, by omega, h.inj, fun j hj q => absurd rfl q, fun b hb => ?_, fun b hb => ?_⟩, hne⟩
  · rw [hne _ (by omega) (by omega)]; exact h.w0
  · rw [hne _ (by omega) (by omega)]; exact h.w1
  · rw [hne _ (by omega) (by omega)]; exact h.w2
  · rw [hne _ (by omega) (by omega)]; exact h.w3
  · rw [hne _ (by omega) (by omega)]; exact h.w9
  · rw [hne _ (by omega) (by omega)]; exact h.wd j hj
  · rw [g4 _ (by omega), if_pos rfl]
  · rw [if_pos rfl]; exact hz j hj1 hj2
  · rw [g5 b hb]
    by_cases e : b = c.toNat
    · rw [if_pos e]
      refine ⟨fun q => absurd q (by decide), fun q => ?_⟩
      exfalso
      rcases q with q | ⟨j, hj, q⟩ | q | q
      · omega
      · exact h.fc j hj hc (by omega)
      · omega
      · exact (h.od b q).2.2.2 (by omega)
    · rw [if_neg e, h.bits b hb]
      constructor
      · rintro (q | q | q | q)
        · exact .inl q
        · exact .inr (.inl q)
        · omega
        · exact .inr (.inr (.inr q))
      · rintro (q | q | q | q)
        · exact .inl q
        · exact .inr (.inl q)
        · exact .inl (by omega)
        · exact .inr (.inr (.inr q))
  · obtain ⟨o1, o2, o3, o4⟩ := h.od b hb
    exact ⟨o1, o2, o3, by omega⟩
theorem Mp.takeW (h : Mp gi gb img l n O hd f c) {k : Nat} (hk : k < 12) (hc : k < 4 ∨ c ≠ 0) (h0 : f k = 0) {i : Nat} (hi : i < gb.toNat) (hf : mbits img l 480 i = false) (hlow : ∀ j, j < i → mbits img l 480 j = true) (hl : l.length + 10 ≤ 96) :
    ∃ m, btake_M img l 1 gi gb (wordAt gi n c k) = some ((i : Int), 0, m) ∧ m.length ≤ l.length + 10 ∧ 1 ≤ i ∧ Mp gi gb img m n O hd (upd f k (i : Int)) c ∧ (∀ z, ¬ (480 ≤ z ∧ z < 488) → vget img m z = if z = wordAt gi n c k then (i : Int) else if 488 + 16 * gi + 8 * (i : Int) ≤ z ∧ z < 488 + 16 * gi + 8 * (i : Int) + 8 then 0 else vget img l z) ∧
      (∀ j, j < 512 → mbits img m 480 j = if j = i then true else mbits img l 480 j) := by
  have hg := h.dk.g
  have hnr := h.nr
  have hrc := h.rc
  have nb : ¬ (mbits img l 480 i = true) := by rw [hf]; decide
  rw [h.bits i (by omega)] at nb
  have h1 : 1 ≤ i := by
    rcases Nat.eq_zero_or_pos i with e | e
    · exact absurd (.inl e) nb
    · exact e
  have hci : c ≠ (i : Int) := fun e => nb (.inr (.inr (.inl e)))
  have hfi : ∀ j, j < 12 → f j ≠ (i : Int) := fun j hj e => nb (.inr (.inl ⟨j, hj, e⟩))
  have hoi : ¬ O i := fun e => nb (.inr (.inr (.inr e)))
  have hat : ¬ (488 + 16 * gi + 8 * (i : Int) ≤ wordAt gi n c k ∧ wordAt gi n c k < 488 + 16 * gi + 8 * (i : Int) + 8) := by
    unfold wordAt
    split <;> omega
  obtain ⟨m, g1, g2, g3, g4, g5⟩ := h.dk.take hi h1 hf hlow (h.wordIn hk) hat hl
  refine ⟨m, g1, g3, h1, h.turn hk hc (x := (i : Int)) (by omega) g2 (fun z hz hz2 => ?_) (fun j hj _ _ => hfi j hj) (fun _ => hci) (fun b hb => ?_) (fun b hb e => hoi (by rw [show i = b by omega]; exact hb)), g4, g5⟩
  · rw [g4 z hz]
    by_cases e : z = wordAt gi n c k
    · rw [if_pos e, if_pos e]
    · rw [if_neg e, if_neg e, if_neg (by omega)]
  · rw [g5 b hb]
    by_cases e : b = i
    · rw [if_pos e]
      exact ⟨fun _ => .inr (.inl ⟨k, hk, by rw [upd_at]; omega⟩), fun _ => rfl⟩
    · rw [if_neg e, h.bits b hb]
      constructor
      · rintro (q | ⟨j, hj, q⟩ | q | q)
        · exact .inl q
        · by_cases ej : j = k
          · subst ej; exact .inl (by omega)
          · exact .inr (.inl ⟨j, hj, by rw [upd_ne ej]; exact q⟩)
        · exact .inr (.inr (.inl q))
        · exact .inr (.inr (.inr q))
      · rintro (q | ⟨j, hj, q⟩ | q | q)
        · exact .inl q
        · by_cases ej : j = k
          · subst ej; rw [upd_at] at q; omega
          · rw [upd_ne ej] at q; exact .inr (.inl ⟨j, hj, q⟩)
        · exact .inr (.inr (.inl q))
        · exact .inr (.inr (.inr q))
theorem Mp.takeC (h : Mp gi gb img l n O hd f 0) {i : Nat} (hi : i < gb.toNat) (hf : mbits img l 480 i = false) (hlow : ∀ j, j < i → mbits img l 480 j = true) (hl : l.length + 10 ≤ 96) :
    ∃ m, btake_M img l 1 gi gb (496 + 16 * n) = some ((i : Int), 0, m) ∧ m.length ≤ l.length + 10 ∧ 1 ≤ i ∧ Mp gi gb img m n O hd f (i : Int) ∧ (∀ z, ¬ (480 ≤ z ∧ z < 488) → vget img m z = if z = 496 + 16 * n then (i : Int) else if 488 + 16 * gi + 8 * (i : Int) ≤ z ∧ z < 488 + 16 * gi + 8 * (i : Int) + 8 then 0 else vget img l z) ∧
      (∀ j, j < 512 → mbits img m 480 j = if j = i then true else mbits img l 480 j) := by
  have hg := h.dk.g
  have hnr := h.nr
  have hlen := h.dk.len
  have nb : ¬ (mbits img l 480 i = true) := by rw [hf]; decide
  rw [h.bits i (by omega)] at nb
  have h1 : 1 ≤ i := by
    rcases Nat.eq_zero_or_pos i with e | e
    · exact absurd (.inl e) nb
    · exact e
  have hfi : ∀ j, j < 12 → f j ≠ (i : Int) := fun j hj e => nb (.inr (.inl ⟨j, hj, e⟩))
  have hoi : ¬ O i := fun e => nb (.inr (.inr (.inr e)))
  obtain ⟨m, g1, g2, g3, g4, g5⟩ := h.dk.take hi h1 hf hlow (at_ := 496 + 16 * n) (by omega) (by omega) hl
  have hne : ∀ z, ¬ (480 ≤ z ∧ z < 488) → z < 488 + 16 * gi → z ≠ 496 + 16 * n → vget img m z = vget img l z := fun z a1 a2 a3 => by rw [g4 z a1, if_neg a3, if_neg (by omega)]
  refine ⟨m, g1, g3, h1, ⟨g2, hnr, h.hd, ?_, ?_, ?_, ?_, ?_, fun j hj => ?_, ?_, fun j hj1 hj2 => ?_, h.rf, by omega, h.inj, fun j hj _ => hfi j hj, fun b hb => ?_, fun b hb => ?_⟩, g4, g5⟩
  · rw [hne _ (by omega) (by omega) (by omega)]; exact h.w0
  · rw [hne _ (by omega) (by omega) (by omega)]; exact h.w1
  · rw [hne _ (by omega) (by omega) (by omega)]; exact h.w2
  · rw [hne _ (by omega) (by omega) (by omega)]; exact h.w3
  · rw [hne _ (by omega) (by omega) (by omega)]; exact h.w9
  · rw [hne _ (by omega) (by omega) (by omega)]; exact h.wd j hj
  · rw [g4 _ (by omega), if_pos rfl]
  · rw [if_neg (by omega), g4 _ (by omega), if_neg (by omega), if_pos (by omega), h.we j hj1 hj2, if_pos rfl]
  · rw [g5 b hb]
    by_cases e : b = i
    · rw [if_pos e]
      exact ⟨fun _ => .inr (.inr (.inl (by omega))), fun _ => rfl⟩
    · rw [if_neg e, h.bits b hb]
      constructor
      · rintro (q | q | q | q)
        · exact .inl q
        · exact .inr (.inl q)
        · exact .inl (by omega)
        · exact .inr (.inr (.inr q))
      · rintro (q | q | q | q)
        · exact .inl q
        · exact .inr (.inl q)
        · omega
        · exact .inr (.inr (.inr q))
  · obtain ⟨o1, o2, o3, o4⟩ := h.od b hb
    exact ⟨o1, o2, o3, fun e => hoi (by rw [show i = b by omega]; exact hb)⟩

def bareB (f : Nat → Int) : Bool := (List.range 12).all fun k => decide (k < 4) || decide (f k = 0)
theorem bareB_iff {f : Nat → Int} : bareB f = true ↔ ∀ k : Nat, k < 12 → 4 ≤ k → f k = 0 := by
  unfold bareB
  simp only [List.all_eq_true, List.mem_range, Bool.or_eq_true, decide_eq_true_eq]
  exact ⟨fun q k k1 k2 => (q k k1).resolve_left (by omega), fun q k k1 => (Nat.lt_or_ge k 4).imp id (q k k1)⟩
theorem Mp.bare (h : Mp gi gb img l n O hd f c) (hc : c ≠ 0) : bbare_M img l 1 gi gb c = some (bareB f) := by
  have hg := h.dk.g
  have hrc := h.rc
  have hp := place9_in (n := c) h.dk.may (by omega)
  unfold bbare_M
  refine iter_run (fun p => 0 ≤ p ∧ p ≤ 8 ∧ ∀ k : Nat, k < 12 → 4 ≤ k → (k : Int) < 4 + p → f k = 0) (fun p => (8 - p).toNat) ?_ _ _ ⟨by omega, by omega, fun k _ _ _ => by omega⟩ (fuel_lt (by omega))
  rintro kk p ⟨h1, h2, h3⟩ ih
  unfold bbare_B0
  by_cases hp8 : p < 8
  · rw [if_pos hp8, hp]
    refine need_of (by omega) ?_
    have hw := h.we (4 + p.toNat) (by omega) (by omega)
    rw [if_neg hc, show 484 + 16 * gi + 8 * c + ((4 + p.toNat : Nat) : Int) = 488 + 16 * gi + 8 * c + p by omega] at hw
    rw [← hw]
    by_cases h0 : f (4 + p.toNat) = 0
    · rw [if_pos h0]
      refine need_of (by omega) (ih _ ⟨by omega, by omega, fun k k1 k2 k3 => ?_⟩ (by omega))
      by_cases e : k = 4 + p.toNat
      · rw [e]; exact h0
      · exact h3 k k1 k2 (by omega)
    · rw [if_neg h0]
      cases hb : bareB f with
      | false => rfl
      | true => exact absurd (bareB_iff.1 hb (4 + p.toNat) (by omega) (by omega)) h0
  · rw [if_neg hp8, bareB_iff.2 fun k k1 k2 => h3 k k1 k2 (by omega)]
def Full (f : Nat → Int) (c : Int) : Prop := c ≠ 0 → ∃ k, k < 12 ∧ 4 ≤ k ∧ f k ≠ 0
theorem Mp.drop (h : Mp gi gb img l n O hd f c) {k : Nat} (hk : k < 12) (hl : l.length + 4 ≤ 96) :
    ∃ m c', bDrop_M img l 1 gi gb n (k : Int) = some (0, m) ∧ m.length ≤ l.length + 4 ∧ Mp gi gb img m n O hd (upd f k 0) c' ∧ (Full f c → Full (upd f k 0) c') ∧ (c' = c ∨ c' = 0) ∧
      (∀ z, ¬ (480 ≤ z ∧ z < 488) → z ≠ wordAt gi n c k → z ≠ 496 + 16 * n → vget img m z = vget img l z) := by
  unfold bDrop_M
  rw [h.at hk]
  simp only [Option.bind, if_true]
  by_cases h0 : f k = 0
  · rw [if_pos h0]
    have e : upd f k 0 = f := by
      funext j
      unfold upd
      split
      · rename_i e; rw [e, h0]
      · rfl
    rw [e]
    exact ⟨l, c, rfl, by omega, h, id, .inl rfl, fun _ _ _ _ => rfl⟩
  · rw [if_neg h0, h.word hk]
    obtain ⟨m, g1, g2, g3, g4⟩ := h.giveW hk h0 (by omega)
    simp only [g1, if_true, g3.chain]
    by_cases hc : c = 0
    · rw [if_pos hc]
      unfold bDrop_J1
      rw [if_neg (by decide)]
      exact ⟨m, c, rfl, by omega, g3, fun _ q => absurd hc q, .inl rfl, fun z z1 z2 _ => g4 z z1 z2⟩
    · rw [if_neg hc, g3.bare hc]
      simp only
      unfold bDrop_J1
      by_cases hz : ∀ j : Nat, j < 12 → 4 ≤ j → upd f k 0 j = 0
      · rw [if_pos (bareB_iff.2 hz), g3.own (by omega), show 488 + 16 * n + 8 = 496 + 16 * n by omega]
        obtain ⟨m2, e1, e2, e3, e4⟩ := g3.giveC hc (fun j a b => hz j b a) (by omega)
        simp only [Option.bind, e1]
        exact ⟨m2, 0, rfl, by omega, e3, fun _ q => absurd rfl q, .inr rfl, fun z z1 z2 z3 => by rw [e4 z z1 z3, g4 z z1 z2]⟩
      · rw [if_neg fun q => hz (bareB_iff.1 q)]
        refine ⟨m, c, rfl, by omega, g3, fun _ _ => ?_, .inl rfl, fun z z1 z2 _ => g4 z z1 z2⟩
        obtain ⟨j, hj⟩ := Classical.not_forall.1 hz
        obtain ⟨hj1, hj⟩ := Classical.not_imp.1 hj
        obtain ⟨hj2, hj⟩ := Classical.not_imp.1 hj
        exact ⟨j, hj1, hj2, hj⟩
end

def listF (f : Nat → Int) : Nat → List Int
  | 0 => []
  | k + 1 => if f k = 0 then listF f k else listF f k ++ [f k]
theorem listF_congr {f g : Nat → Int} : ∀ {n : Nat}, (∀ k, k < n → f k = g k) → listF f n = listF g n
  | 0, _ => rfl
  | n + 1, h => by
    unfold listF
    rw [h n (by omega), listF_congr fun k hk => h k (by omega)]
theorem listF_upd {f : Nat → Int} {k : Nat} {b : Int} (h0 : f k = 0) (hb : b ≠ 0) : ∀ {n : Nat}, (listF (upd f k b) n).length = (listF f n).length + (if k < n then 1 else 0)
  | 0 => by simp [listF]
  | n + 1 => by
    have ih := listF_upd h0 hb (n := n)
    unfold listF
    by_cases e : n = k
    · subst e
      rw [upd_at, if_neg hb, if_pos h0, if_pos (by omega), List.length_append, ih, if_neg (by omega)]
      rfl
    · rw [upd_ne e]
      by_cases hk : k < n
      · rw [if_pos hk] at ih
        rw [if_pos (show k < n + 1 by omega)]
        split
        · exact ih
        · simp only [List.length_append, List.length_cons, List.length_nil]; omega
      · rw [if_neg hk] at ih
        rw [if_neg (show ¬ k < n + 1 by omega)]
        split
        · exact ih
        · simp only [List.length_append, List.length_cons, List.length_nil]; omega
section
variable {gi gb : Int} {img : List Int} {l : List (Int × Int)} {n : Int} {O : Nat → Prop} {hd : Hd} {f : Nat → Int} {c : Int}
theorem Mp.take (h : Mp gi gb img l n O hd f c) {k : Nat} (hk : k < 12) (hl : l.length + 20 ≤ 96) :
    (f k ≠ 0 ∧ bTake_M img l 1 gi gb n (k : Int) = some (f k, 0, l)) ∨
    (f k = 0 ∧ gb - (cnt (mbits img l 480) gb.toNat : Nat) < needF f c k ∧ bTake_M img l 1 gi gb n (k : Int) = some (0, 7, l)) ∨
    (f k = 0 ∧ ¬ gb - (cnt (mbits img l 480) gb.toNat : Nat) < needF f c k ∧ ∃ m b c', bTake_M img l 1 gi gb n (k : Int) = some (b, 0, m) ∧ m.length ≤ l.length + 20 ∧ Mp gi gb img m n O hd (upd f k b) c' ∧ 0 < b ∧ mbits img l 480 b.toNat = false ∧
      (c' = c ∧ (k < 4 ∨ c ≠ 0) ∨ c = 0 ∧ 4 ≤ k ∧ 0 < c' ∧ mbits img l 480 c'.toNat = false) ∧ (∀ z, 488 + 16 * gi + 8 * b ≤ z ∧ z < 488 + 16 * gi + 8 * b + 8 → vget img m z = 0) ∧
      (∀ z, ¬ (480 ≤ z ∧ z < 488) → ¬ (492 + 16 * n ≤ z ∧ z ≤ 496 + 16 * n) → ¬ (488 + 16 * gi + 8 * b ≤ z ∧ z < 488 + 16 * gi + 8 * b + 8) → ¬ (4 ≤ k ∧ 488 + 16 * gi + 8 * c' ≤ z ∧ z < 488 + 16 * gi + 8 * c' + 8) → vget img m z = vget img l z)) := by
  have hg := h.dk.g
  have hlen := h.dk.len
  have hw := h.dk.words
  have hnr := h.nr
  have hrc := h.rc
  unfold bTake_M
  rw [h.at hk]
  simp only [Option.bind, if_true]
  unfold bTake_J1
  by_cases h0 : f k = 0
  rotate_left
  · refine .inl ⟨h0, ?_⟩
    rw [if_pos (by simp [h0])]
  refine .inr ?_
  rw [decide_eq_true h0, if_neg (by decide)]
  have hcnt := cnt_le (mbits img l 480) gb.toNat
  have hfree := afree_ok (img := img) (l := l) (gi := gi) (gb := gb) (ia := 472) (ba := 480) h.dk.vr (by omega) (by omega) (by omega) (by omega)
  unfold freeF at hfree
  have hN : needF f c k = if k < 4 ∨ c ≠ 0 then 1 else 2 := by unfold needF; rw [if_pos h0]
  rw [show ∀ x : Option (Int × Int × List (Int × Int)), Go.Proofs.YtmmclabkkigiaaaGreatDoor.need ((img.length : Int) ≤ 1000000000000) x = x from fun x => need_of (by omega) rfl, if_pos ⟨h.dk.may, by omega⟩, place6 h.dk.may, place7 h.dk.may]
  simp only [Int.reduceMul, Int.reduceAdd]
  rw [hfree, h.need hk]
  simp only [Option.bind]
  by_cases hfr : gb - (cnt (mbits img l 480) gb.toNat : Nat) < needF f c k
  · rw [if_pos hfr]
    exact .inl ⟨h0, hfr, rfl⟩
  refine .inr ⟨h0, hfr, ?_⟩
  rw [if_neg hfr, h.word hk]
  simp only
  -- the least one that is free
  have lowest : ∀ l', cnt (mbits img l' 480) gb.toNat < gb.toNat → ∃ i, i < gb.toNat ∧ mbits img l' 480 i = false ∧ ∀ j, j < i → mbits img l' 480 j = true := fun l' hl' => by
    rcases lst_cases (mbits img l' 480) gb.toNat with ⟨i, h1, h2, h3, _⟩ | ⟨h1, _⟩
    · exact ⟨i, h1, h2, h3⟩
    · have := cnt_full h1
      omega
  obtain ⟨i, i1, i2, i3⟩ := lowest l (by rw [hN] at hfr; split at hfr <;> omega)
  by_cases hc : k < 4 ∨ c ≠ 0
  · have ht : (if k < 4 then true else !decide (c = 0)) = true := by
      rcases hc with hc | hc
      · rw [if_pos hc]
      · split
        · rfl
        · simp [hc]
    rw [ht, if_pos rfl]
    obtain ⟨m, t1, t2, t3, t4, t5, t6⟩ := h.takeW hk hc h0 i1 i2 i3 (by omega)
    unfold bTake_J2
    rw [t1]
    refine ⟨m, (i : Int), c, rfl, by omega, t4, by omega, by rw [Int.toNat_natCast]; exact i2, .inl ⟨rfl, hc⟩, fun z hz => ?_, fun z z1 z2 z3 z4 => ?_⟩
    · rw [t5 z (by omega), if_neg, if_pos hz]
      have hi3 : ¬ c = (i : Int) := fun e => by
        have := (h.bits i (by omega)).2 (.inr (.inr (.inl e)))
        rw [i2] at this
        cases this
      unfold wordAt
      by_cases h4 : k < 4
      · rw [if_pos h4]; omega
      · rw [if_neg h4]; omega
    · rw [t5 z z1, if_neg, if_neg z3]
      unfold wordAt
      by_cases h4 : k < 4
      · rw [if_pos h4]; omega
      · rw [if_neg h4]; omega
  · have hc0 : c = 0 := by omega
    have hk4 : 4 ≤ k := by omega
    subst hc0
    rw [if_neg (show ¬ k < 4 by omega), if_neg (by simp), h.own (by omega), show 488 + 16 * n + 8 = 496 + 16 * n by omega]
    simp only
    obtain ⟨m1, t1, t2, t3, t4, t5, t6⟩ := h.takeC i1 i2 i3 (by omega)
    rw [t1]
    simp only [if_true]
    rw [t4.word hk]
    simp only
    have hset := cnt_set (f := mbits img l 480) (j := i) (b := true) (n := gb.toNat) i1
    have hcc : cnt (mbits img m1 480) gb.toNat = cnt (fun j => if j = i then true else mbits img l 480 j) gb.toNat := cnt_congr fun j hj => t6 j (by omega)
    rw [← hcc, i2] at hset
    simp at hset
    have hN2 : needF f 0 k = 2 := by rw [hN, if_neg (by omega)]
    rw [hN2] at hfr
    obtain ⟨i', j1, j2, j3⟩ := lowest m1 (by omega)
    obtain ⟨m, s1, s2, s3, s4, s5, s6⟩ := t4.takeW hk (.inr (by omega)) h0 j1 j2 j3 (by omega)
    unfold bTake_J2
    rw [s1]
    have hii : i' ≠ i := fun e => by
      have := t6 i' (by omega)
      rw [if_pos e, j2] at this
      cases this
    have hb0 : mbits img l 480 i' = false := by
      have := t6 i' (by omega)
      rw [if_neg hii, j2] at this
      exact this.symm
    refine ⟨m, (i' : Int), (i : Int), rfl, by omega, s4, by omega, by rw [Int.toNat_natCast]; exact hb0, .inr ⟨by trivial, hk4, by omega, by rw [Int.toNat_natCast]; exact i2⟩, fun z hz => ?_, fun z z1 z2 z3 z4 => ?_⟩
    · rw [s5 z (by omega), if_neg, if_pos hz]
      unfold wordAt
      rw [if_neg (by omega)]
      omega
    · rw [s5 z z1, if_neg, if_neg z3, t5 z z1, if_neg (by omega), if_neg (by omega)]
      unfold wordAt
      rw [if_neg (by omega)]
      omega
end

section
variable {gi gb : Int} {img : List Int} {l : List (Int × Int)} {n : Int} {O : Nat → Prop} {hd : Hd} {f : Nat → Int} {c : Int}
theorem Dk.flat (h : Dk gi gb img l) : Dk gi gb (vflat img l) [] := by
  have hl := vflat_length img l
  have := h.g
  have := h.len
  exact ⟨h.may, by rw [hl]; exact h.len, VR.nil (u64_flat h.ok h.vr), VOk.nil (by omega)⟩
theorem Mp.flat (h : Mp gi gb img l n O hd f c) : Mp gi gb (vflat img l) [] n O hd f c := by
  have e := fun k => vget_flat h.dk.ok k
  refine ⟨h.dk.flat, h.nr, h.hd, ?_, ?_, ?_, ?_, ?_, fun k hk => ?_, ?_, fun k k1 k2 => ?_, h.rf, h.rc, h.inj, h.fc, fun b hb => ?_, h.od⟩
  · rw [e]; exact h.w0
  · rw [e]; exact h.w1
  · rw [e]; exact h.w2
  · rw [e]; exact h.w3
  · rw [e]; exact h.w9
  · rw [e]; exact h.wd k hk
  · rw [e]; exact h.w8
  · rw [e]; exact h.we k k1 k2
  · rw [mbits_flat h.dk.ok]; exact h.bits b hb
theorem Dk.start (hm : May 1 gi gb) (hl : (img.length : Int) = 488 + 16 * gi + 8 * gb) (hu : ∀ x ∈ img, U64 x) : Dk gi gb img [] := by
  have := may_out hm
  exact ⟨hm, hl, VR.nil hu, VOk.nil (by omega)⟩
theorem Dk.fmt (hm : May 1 gi gb) : Dk gi gb (fmtW 1 gi gb) [] := by
  have := fmtW_len 1 gi gb
  have := words_may hm
  have := may_out hm
  exact Dk.start hm (by omega) fmtW_u64
theorem Mp.fmt (hm : May 1 gi gb) : Mp gi gb (fmtW 1 gi gb) [] 1 (fun _ => False) ⟨2, 1, 0, 0, 0⟩ (fun _ => 0) 0 := by
  have hm_ := may_out hm
  have hw := words_may hm
  have w : ∀ z : Int, 0 ≤ z → z < 488 + 16 * gi + 8 * gb → 488 ≤ z → vget (fmtW 1 gi gb) [] z = if z = 505 then 1 else if z = 504 then 2 else 0 := fun z h0 h1 h2 => by
    rw [fmt_vget hm (by omega)]
    simp only [Int.mul_one, Int.reduceAdd, Int.reduceMul]
    rw [if_neg (show ¬ z = 480 by omega), if_neg (show ¬ z = 472 by omega), if_neg (show ¬ z = 3 by omega), if_neg (show ¬ z = 2 by omega), if_neg (show ¬ z = 1 by omega), if_neg (show ¬ z = 0 by omega)]
  refine ⟨Dk.fmt hm, by omega, ⟨show (0 : Int) < gi by omega, ⟨show (1 : Int) ≤ 65536 by omega, show (0 : Int) ≤ 16 by omega, show (0 : Int) ≤ 768 by omega⟩, .inr ⟨rfl, rfl⟩⟩, ?_, ?_, ?_, ?_, ?_, fun k hk => ?_, ?_, fun k _ _ => by rw [if_pos rfl], fun k _ => ⟨Int.le_refl 0, show (0 : Int) < gb by omega⟩, by omega, fun j k _ _ h => absurd rfl h, fun k _ h => absurd rfl h, fun b hb => ?_, fun b hb => hb.elim⟩
  · rw [w _ (by omega) (by omega) (by omega), if_neg (by omega), if_pos (by omega)]
  · rw [w _ (by omega) (by omega) (by omega), if_pos (by omega)]
  · rw [w _ (by omega) (by omega) (by omega), if_neg (by omega), if_neg (by omega)]
  · rw [w _ (by omega) (by omega) (by omega), if_neg (by omega), if_neg (by omega)]
  · rw [w _ (by omega) (by omega) (by omega), if_neg (by omega), if_neg (by omega)]
  · rw [w _ (by omega) (by omega) (by omega), if_neg (by omega), if_neg (by omega)]
  · rw [w _ (by omega) (by omega) (by omega), if_neg (by omega), if_neg (by omega)]
  · have eb := fmt_bbits hm hb
    simp only [Int.reduceMul, Int.reduceAdd] at eb
    rw [eb, decide_eq_true_iff]
    constructor
    · exact .inl
    · rintro (q | ⟨_, _, q⟩ | q | q)
      · exact q
      · omega
      · omega
      · exact q.elim
theorem Mp.free (h : Mp gi gb img l n O hd f c) : afree_M img l gi gb 472 480 = some (gi - (cnt (mbits img l 472) gi.toNat : Nat), gb - (cnt (mbits img l 480) gb.toNat : Nat)) := by
  have hg := h.dk.g
  have := afree_ok (img := img) (l := l) (gi := gi) (gb := gb) (ia := 472) (ba := 480) h.dk.vr (by omega) (by omega) (by omega) (by omega)
  unfold freeF at this
  exact this
end

end Go.Proofs.YtmmclabkkigiaaaGreatDoor

namespace Go.Proofs.YtmmclabkkigiaaaGreatDoor
open Go Go.RowKit
set_option linter.unusedVariables false
set_option linter.unusedSimpArgs false

structure EntAt (gi : Int) (img : List Int) (l : List (Int × Int)) (base : Int) (nm : ByteArray) (v : Int) : Prop where
  may : mayB nm = true
  num : 1 ≤ v ∧ v < gi
  w0 : vget img l base = v
  w1 : vget img l (base + 1) = (nm.size : Int)
  wn : ∀ q : Nat, q < (nm.size + 7) / 8 → vget img l (base + 2 + (q : Int)) = (packF nm).getD q 0
structure Dir (gi gb : Int) (img : List Int) (l : List (Int × Int)) (f : Nat → Int) (c : Int) (E : Nat → ByteArray) (V : Nat → Int) : Prop where
  mp : Mp gi gb img l 1 (fun _ => False) ⟨2, 1, 0, 0, 0⟩ f c
  ent : ∀ k, k < 12 → f k ≠ 0 → EntAt gi img l (488 + 16 * gi + 8 * f k) (E k) (V k)
section
variable {gi gb : Int} {img : List Int} {l : List (Int × Int)} {f : Nat → Int} {c : Int} {E : Nat → ByteArray} {V : Nat → Int}
theorem Dir.entry (h : Dir gi gb img l f c E V) {k : Nat} (hk : k < 12) : tentry_M img l 1 gi gb 1 (k : Int) = some (if f k = 0 then (ByteArray.empty, 0, 0) else (E k, V k, 0)) := by
  have hg := h.mp.dk.g
  have hr := h.mp.rf k hk
  unfold tentry_M
  refine bind_of (h.mp.at hk) ?_
  rw [if_pos rfl]
  unfold tentry_J1
  by_cases h0 : f k = 0
  · rw [if_pos (decide_eq_true h0), if_pos h0]
  rw [if_neg (by simp [h0]), if_neg h0, place9_in (n := f k) h.mp.dk.may (by omega)]
  have e := h.ent k hk h0
  have hm := mayB_iff.1 e.may
  have hv := e.num
  refine bind_of rfl (need_of (by omega) ?_)
  rw [e.w0, e.w1, if_neg (by omega)]
  refine need_of (by omega) ?_
  rw [if_neg (by omega), decide_eq_false (show ¬ ((E k).size : Int) > 40 by omega)]
  unfold tentry_J2
  rw [if_neg (by decide)]
  generalize hB : 488 + 16 * gi + 8 * f k = base at *
  refine iter_run (fun s : List Int × Int => (2 ≤ s.2 ∧ s.2 ≤ 8) ∧ s.1 = (List.range (s.2 - 2).toNat).map fun (q : Nat) => vget img l (base + 2 + (q : Int))) (fun s => (8 - s.2).toNat) ?_ _ _ ⟨by simp, rfl⟩ (fuel_lt (by simp only; omega))
  rintro k2 ⟨q, p⟩ ⟨h1, h2⟩ ih
  simp only at h1 h2 ih
  unfold tentry_B0
  simp only
  by_cases hp : p < 8
  · rw [if_pos hp]
    refine need_of (by omega) (need_of (by rw [h2, List.length_map, List.length_range]; omega) (need_of (by omega) (ih _ ⟨by simp only; omega, ?_⟩ (by simp only; omega))))
    simp only
    rw [h2, show (p + 1 - 2).toNat = (p - 2).toNat + 1 by omega, List.range_succ, List.map_append]
    congr 1
    simp only [List.map_cons, List.map_nil]
    congr 2
    omega
  · rw [if_neg hp]
    unfold tentry_J3
    rw [e.w1]
    have hq : q.length = 6 := by rw [h2, List.length_map, List.length_range]; omega
    have hu := unpack_eq (ws := q) (n := ((E k).size : Int)) (by omega) (by omega) (by omega)
    rw [Int.toNat_natCast, bytesF_pack (s := E k) (fun j hj => by
      rw [← e.wn j hj, h2]
      simp only [List.getD, List.getElem?_map, List.getElem?_range (show j < (p - 2).toNat by omega), Option.map_some, Option.getD_some]), str_nums] at hu
    refine need_of (by omega) (bind_of hu ?_)
    simp only
    rw [if_pos trivial]
    refine bind_of (emay_eq (E k)) ?_
    rw [e.may]
    unfold tentry_J4
    rw [if_neg (by decide), e.w0]
    exact need_of (by omega) rfl
theorem Dir.find (h : Dir gi gb img l f c E V) (tx : ByteArray) :
    (mayB tx = false ∧ tfind_M img l 1 gi gb 1 tx = some (ByteArray.empty, 0, 0, 13)) ∨
    (mayB tx = true ∧ (∃ p, p < 12 ∧ f p ≠ 0 ∧ E p = tx ∧ tfind_M img l 1 gi gb 1 tx = some (tx, V p, (p : Int), 0))) ∨
    (mayB tx = true ∧ (∀ p, p < 12 → f p ≠ 0 → E p ≠ tx) ∧ tfind_M img l 1 gi gb 1 tx = some (ByteArray.empty, 0, 0, 6)) := by
  rcases ebegin_any tx with ⟨m1, b1⟩ | ⟨m1, ws, r, _, _, hr, b1⟩
  · refine .inl ⟨m1, ?_⟩
    unfold tfind_M
    refine bind_of (emay_eq tx) ?_
    rw [m1]
    rfl
  refine .inr ?_
  suffices H : Ok (fun x => (∃ p : Nat, p < 12 ∧ f p ≠ 0 ∧ E p = tx ∧ x = (tx, V p, (p : Int), 0)) ∨ ((∀ p, p < 12 → f p ≠ 0 → E p ≠ tx) ∧ x = (ByteArray.empty, 0, 0, 6))) (tfind_M img l 1 gi gb 1 tx) by
    obtain ⟨x, hx, ⟨p, p1, p2, p3, rfl⟩ | ⟨hn, rfl⟩⟩ := H
    · exact .inl ⟨m1, p, p1, p2, p3, hx⟩
    · exact .inr ⟨m1, hn, hx⟩
  unfold tfind_M
  refine Ok.got15 (emay_eq tx) (Ok.yes m1 (Ok.got15 b1 (Ok.need (by omega) ?_)))
  obtain ⟨b, hb⟩ : ∃ b : Nat, r % 12 = (b : Int) := ⟨(r % 12).toNat, by omega⟩
  have hb12 : b < 12 := by omega
  rw [hb]
  refine rounds_ok (fun k (_ : Unit) => ∀ j, j < k → f ((b + j) % 12) ≠ 0 → E ((b + j) % 12) ≠ tx) 12 (fun k c2 s hk hI ih => ?_) (fun s hI => ?_) _ _ _ (by omega) (fun j hj => absurd hj (by omega))
  · unfold tfind_R40
    refine Ok.name fun z hz => ?_
    have ez : z = (((b + k) % 12 : Nat) : Int) := by omega
    have hp : (b + k) % 12 < 12 := by omega
    rw [ez]
    refine Ok.got15 (h.entry hp) ?_
    by_cases h0 : f ((b + k) % 12) = 0
    · rw [if_pos h0]
      refine Ok.yes rfl (Ok.no (fun q => ?_) (ih () fun j hj hq => ?_))
      · have := (mayB_iff.1 m1).1
        rw [← q.1] at this
        simp at this
      · by_cases ej : j = k
        · rw [ej] at hq; exact absurd h0 hq
        · exact hI j (by omega) hq
    · rw [if_neg h0]
      refine Ok.yes rfl (Ok.ite (fun q => ?_) (fun q => ih () fun j hj hq => ?_))
      · unfold tfind_X40
        exact Ok.some (.inl ⟨_, hp, h0, q.1, by rw [q.1]⟩)
      · by_cases ej : j = k
        · rw [ej]; exact fun e => q ⟨e, rfl⟩
        · exact hI j (by omega) hq
  · unfold tfind_D40
    refine Ok.some (.inr ⟨fun p hp hq => ?_, rfl⟩)
    have := hI ((p + 12 - b) % 12) (by omega)
    rw [show (b + (p + 12 - b) % 12) % 12 = p by omega] at this
    exact this hq
end
end Go.Proofs.YtmmclabkkigiaaaGreatDoor

namespace Go.Proofs.YtmmclabkkigiaaaGreatDoor
open Go Go.RowKit
set_option linter.unusedVariables false
set_option linter.unusedSimpArgs false

def updA {α : Type} (f : Nat → α) (k : Nat) (x : α) : Nat → α := fun j => if j = k then x else f j
theorem updA_at {α : Type} (f : Nat → α) (k : Nat) (x : α) : updA f k x k = x := if_pos rfl
theorem updA_ne {α : Type} {f : Nat → α} {k j : Nat} {x : α} (h : j ≠ k) : updA f k x j = f j := if_neg h
section
variable {gi gb : Int} {img : List Int} {l : List (Int × Int)} {n : Int} {O : Nat → Prop} {hd : Hd} {f : Nat → Int} {c : Int} {E : Nat → ByteArray} {V : Nat → Int}
theorem Mp.data1 (h : Mp gi gb img l n O hd f c) {m : List (Int × Int)} (hm : Dk gi gb img m) {k : Nat} (hk : k < 12) (h0 : f k ≠ 0) (hw : ∀ z, ¬ (488 + 16 * gi + 8 * f k ≤ z ∧ z < 488 + 16 * gi + 8 * f k + 8) → vget img m z = vget img l z) : Mp gi gb img m n O hd f c := by
  have hg := h.dk.g
  have hnr := h.nr
  have hr := h.rf k hk
  have hrc := h.rc
  refine ⟨hm, hnr, h.hd, ?_, ?_, ?_, ?_, ?_, fun j hj => ?_, ?_, fun j j1 j2 => ?_, h.rf, hrc, h.inj, h.fc, fun b hb => ?_, h.od⟩
  · rw [hw _ (by omega)]; exact h.w0
  · rw [hw _ (by omega)]; exact h.w1
  · rw [hw _ (by omega)]; exact h.w2
  · rw [hw _ (by omega)]; exact h.w3
  · rw [hw _ (by omega)]; exact h.w9
  · rw [hw _ (by omega)]; exact h.wd j hj
  · rw [hw _ (by omega)]; exact h.w8
  · rw [h.we j j1 j2]
    by_cases hc : c = 0
    · rw [if_pos hc, if_pos hc]
    · have := h.fc k hk hc
      rw [if_neg hc, if_neg hc, hw _ (by omega)]
  · rw [← h.bits b hb]
    rw [mbits_congr (img' := img) (l' := l) (hw _ (by omega))]
theorem wr_ok (h : Dk gi gb img l) {b : Int} (hb : 0 < b ∧ b < gb) {r : Int × Int × List (Int × Int)} (hr : r.1 = b ∧ r.2.2 = l) {xs : List Int} (hx : ∀ x ∈ xs, U64 x) (hn : xs.length ≤ 8) (hl : l.length + 8 ≤ 96) :
    ∃ m, tadd_J4 img 1 gi gb r xs (xs.length : Int) = some (0, m) ∧ Dk gi gb img m ∧ m.length ≤ l.length + 8 ∧ ∀ z, vget img m z = if 488 + 16 * gi + 8 * b ≤ z ∧ z < 488 + 16 * gi + 8 * b + (xs.length : Int) then xs.getD (z - (488 + 16 * gi + 8 * b)).toNat 0 else vget img l z := by
  have hg := h.g
  have hlen := h.len
  have hp := place9_in (n := b) h.may (by omega)
  suffices H : Ok (fun y : Int × List (Int × Int) => y.1 = 0 ∧ Dk gi gb img y.2 ∧ y.2.length ≤ l.length + 8 ∧ ∀ z, vget img y.2 z = if 488 + 16 * gi + 8 * b ≤ z ∧ z < 488 + 16 * gi + 8 * b + (xs.length : Int) then xs.getD (z - (488 + 16 * gi + 8 * b)).toNat 0 else vget img l z) (tadd_J4 img 1 gi gb r xs (xs.length : Int)) by
    obtain ⟨⟨e, m⟩, e1, e2, e3⟩ := H
    simp only at e2 e3
    subst e2
    exact ⟨m, e1, e3⟩
  unfold tadd_J4
  rw [hr.2]
  refine Ok.iter (fun s : List (Int × Int) × Int => (0 ≤ s.2 ∧ s.2 ≤ (xs.length : Int)) ∧ Dk gi gb img s.1 ∧ (s.1.length : Int) ≤ l.length + s.2 ∧ ∀ z, vget img s.1 z = if 488 + 16 * gi + 8 * b ≤ z ∧ z < 488 + 16 * gi + 8 * b + s.2 then xs.getD (z - (488 + 16 * gi + 8 * b)).toNat 0 else vget img l z)
    (fun s => ((xs.length : Int) - s.2).toNat) ?_ _ _ ⟨by simp, h, by simp, fun z => by rw [if_neg (by simp only; omega)]⟩ (fuel_lt (by simp only; omega))
  rintro k ⟨m, p⟩ ⟨h1, h2, h3, h4⟩ ih
  simp only at h1 h2 h3 h4 ih
  show Ok _ (tadd_B0 img 1 gi gb r xs (xs.length : Int) k m p)
  unfold tadd_B0
  rw [hr.1, hp]
  refine Ok.ite (fun hp2 => ?_) (fun hp2 => ?_)
  · have hxm : xs.getD p.toNat 0 ∈ xs := by simp [List.getD, show p.toNat < xs.length by omega]
    obtain ⟨m2, e1, e2, e3, e4⟩ := h2.write (a := 488 + 16 * gi + 8 * b + p) (x := xs.getD p.toNat 0) (by omega) (hx _ hxm) (by omega)
    refine Ok.need (by omega) (Ok.need (by omega) ?_)
    rw [e1]
    refine Ok.yes rfl (Ok.need (by omega) (ih _ ⟨by simp only; omega, e2, by simp only; omega, fun z => ?_⟩ (by simp only; omega)))
    simp only
    rw [e4, h4]
    by_cases ez : z = 488 + 16 * gi + 8 * b + p
    · rw [if_pos ez, if_pos (by omega)]
      congr 1
      omega
    · rw [if_neg ez]
      by_cases q : 488 + 16 * gi + 8 * b ≤ z ∧ z < 488 + 16 * gi + 8 * b + p
      · rw [if_pos q, if_pos (by omega)]
      · rw [if_neg q, if_neg (by omega)]
  · unfold tadd_X27
    have : p = (xs.length : Int) := by omega
    exact Ok.some ⟨rfl, h2, by simp only; omega, fun z => by rw [h4, this]⟩
theorem Dir.add (h : Dir gi gb img l f c E V) (hl : l.length + 30 ≤ 96) {xn : ByteArray} {xi : Int} (hm : mayB xn = true) (hv : 1 ≤ xi ∧ xi < gi) :
    (∃ p, p < 12 ∧ f p = 0 ∧ ∃ m b c', tadd_M img l 1 gi gb 1 xn xi = some (0, m) ∧ Dir gi gb img m (upd f p b) c' (updA E p xn) (updA V p xi) ∧ b ≠ 0 ∧ m.length ≤ l.length + 30) ∨
    (∃ p, p < 12 ∧ f p = 0 ∧ gb - (cnt (mbits img l 480) gb.toNat : Nat) < needF f c p ∧ tadd_M img l 1 gi gb 1 xn xi = some (7, l)) ∨
    ((∀ p, p < 12 → f p ≠ 0) ∧ tadd_M img l 1 gi gb 1 xn xi = some (16, l)) := by
  have hg := h.mp.dk.g
  have hm1 := mayB_iff.1 hm
  rcases ebegin_any xn with ⟨m1, b1⟩ | ⟨m1, ws, r, _, _, hr, b1⟩
  · rw [m1] at hm; cases hm
  suffices H : Ok (fun x : Int × List (Int × Int) => (∃ p, p < 12 ∧ f p = 0 ∧ ∃ b c', x.1 = 0 ∧ Dir gi gb img x.2 (upd f p b) c' (updA E p xn) (updA V p xi) ∧ b ≠ 0 ∧ x.2.length ≤ l.length + 30) ∨ (∃ p, p < 12 ∧ f p = 0 ∧ gb - (cnt (mbits img l 480) gb.toNat : Nat) < needF f c p ∧ x = (7, l)) ∨ ((∀ p, p < 12 → f p ≠ 0) ∧ x = (16, l))) (tadd_M img l 1 gi gb 1 xn xi) by
    obtain ⟨⟨e, m⟩, hx, ⟨p, p1, p2, b, c', p3, p4⟩ | ⟨p, p1, p2, p3, p4⟩ | ⟨p1, p2⟩⟩ := H
    · simp only at p3
      subst p3
      exact .inl ⟨p, p1, p2, m, b, c', hx, p4⟩
    · rw [p4] at hx
      exact .inr (.inl ⟨p, p1, p2, p3, hx⟩)
    · rw [p2] at hx
      exact .inr (.inr ⟨p1, hx⟩)
  unfold tadd_M
  refine Ok.got15 b1 (Ok.need (by omega) ?_)
  obtain ⟨b0, hb⟩ : ∃ b : Nat, r % 12 = (b : Int) := ⟨(r % 12).toNat, by omega⟩
  have hb12 : b0 < 12 := by omega
  rw [hb]
  refine rounds_ok (fun k (_ : Unit) => ∀ j, j < k → f ((b0 + j) % 12) ≠ 0) 12 (fun k c2 s hk hI ih => ?_) (fun s hI => ?_) _ _ _ (by omega) (fun j hj => absurd hj (by omega))
  rotate_left
  · unfold tadd_D27
    refine Ok.some (.inr (.inr ⟨fun p hp => ?_, rfl⟩))
    have := hI ((p + 12 - b0) % 12) (by omega)
    rw [show (b0 + (p + 12 - b0) % 12) % 12 = p by omega] at this
    exact this
  unfold tadd_R27
  refine Ok.name fun z hz => ?_
  have ez : z = (((b0 + k) % 12 : Nat) : Int) := by omega
  obtain ⟨p, ep⟩ : ∃ p, (b0 + k) % 12 = p := ⟨_, rfl⟩
  have hp : p < 12 := by omega
  rw [ez, ep]
  refine Ok.got15 (h.mp.at hp) (Ok.ite (fun h0 => Ok.yes rfl ?_) (fun h0 => ih () fun j hj => ?_))
  rotate_left
  · by_cases ej : j = k
    · rw [ej, ep]; exact h0
    · exact hI j (by omega)
  rcases h.mp.take hp (by omega) with ⟨a1, _⟩ | ⟨_, a3, a2⟩ | ⟨_, a3, m, b, c', a2, a4, a5, a6, a7, a8, a9, a10⟩
  · exact absurd h0 a1
  · refine Ok.got15 a2 (Ok.no (show ¬ (7 : Int) = 0 by decide) ?_)
    unfold tadd_X27
    exact Ok.some (.inr (.inl ⟨p, hp, h0, a3, rfl⟩))
  have hrb := a5.rf p hp
  rw [upd_at] at hrb
  have hpl := packF_len xn
  have hlen2 : ([xi, (xn.size : Int)] ++ packF xn).length = 2 + (xn.size + 7) / 8 := by rw [List.length_append, hpl]; rfl
  obtain ⟨m2, w1, w2, w3, w4⟩ := wr_ok a5.dk (b := b) (by omega) (r := (b, 0, m)) ⟨rfl, rfl⟩ (xs := [xi, (xn.size : Int)] ++ packF xn) (fun x hx => by
    rcases List.mem_append.1 hx with q | q
    · rcases List.mem_cons.1 q with rfl | q
      · unfold U64; omega
      · rw [List.mem_singleton] at q
        rw [q]; unfold U64; omega
    · exact packF_u64 xn x q) (by omega) (by omega)
  refine Ok.got15 a2 (Ok.yes rfl (Ok.need (by omega) (Ok.need (by omega) (Ok.got15 (opack_eq (by omega)) (Ok.need (by omega) ?_)))))
  refine ⟨_, w1, .inl ⟨p, hp, h0, b, c', rfl, ⟨?_, fun j hj hj0 => ?_⟩, by omega, by simp only; omega⟩⟩
  · exact a5.data1 w2 hp (by rw [upd_at]; omega) fun z hz => by
      rw [upd_at] at hz
      rw [w4, if_neg (by omega)]
  · by_cases ej : j = p
    · subst ej
      rw [upd_at, updA_at, updA_at]
      refine ⟨hm, hv, ?_, ?_, fun q hq => ?_⟩
      · rw [w4, if_pos (by omega), show (488 + 16 * gi + 8 * b - (488 + 16 * gi + 8 * b)).toNat = 0 by omega]
        rfl
      · rw [w4, if_pos (by omega), show (488 + 16 * gi + 8 * b + 1 - (488 + 16 * gi + 8 * b)).toNat = 1 by omega]
        rfl
      · rw [w4, if_pos (by omega), show (488 + 16 * gi + 8 * b + 2 + (q : Int) - (488 + 16 * gi + 8 * b)).toNat = 2 + q by omega, List.getD_eq_getElem?_getD, List.getElem?_append_right (by simp only [List.length_cons, List.length_nil]; omega), List.getD_eq_getElem?_getD]
        simp only [List.length_cons, List.length_nil, show 2 + q - (0 + 1 + 1) = q by omega]
    · rw [upd_ne ej] at hj0 ⊢
      rw [updA_ne ej, updA_ne ej]
      have e := h.ent j hj hj0
      have hrj := h.mp.rf j hj
      have hfb : f j ≠ b := fun q => ej (a5.inj j p hj hp (by rw [upd_ne ej]; exact hj0) (by rw [upd_ne ej, upd_at]; exact q))
      have hrc := a5.rc
      have hfc : c' ≠ 0 → f j ≠ c' := fun q => by
        have := a5.fc j hj q
        rw [upd_ne ej] at this
        exact this
      have same : ∀ d : Int, 0 ≤ d ∧ d < 8 → vget img m2 (488 + 16 * gi + 8 * f j + d) = vget img l (488 + 16 * gi + 8 * f j + d) := fun d hd => by
        have hnr := h.mp.nr
        rw [w4, if_neg (by omega)]
        refine a10 _ (by omega) (by omega) (by omega) ?_
        by_cases hc0 : c' = 0
        · subst hc0; omega
        · have := hfc hc0; omega
      have hsz := mayB_iff.1 e.may
      refine ⟨e.may, e.num, ?_, ?_, fun q hq => ?_⟩
      · have := same 0 (by omega)
        rw [Int.add_zero] at this
        rw [this]; exact e.w0
      · rw [same 1 (by omega)]; exact e.w1
      · have := same (2 + (q : Int)) (by omega)
        rw [← Int.add_assoc] at this
        rw [this]; exact e.wn q hq
end
end Go.Proofs.YtmmclabkkigiaaaGreatDoor

namespace Go.Proofs.YtmmclabkkigiaaaGreatDoor
open Go Go.RowKit
set_option linter.unusedVariables false
set_option linter.unusedSimpArgs false
section
variable {gi gb : Int} {img : List Int} {l : List (Int × Int)} {f : Nat → Int} {c : Int} {E : Nat → ByteArray} {V : Nat → Int}
theorem Dir.flat (h : Dir gi gb img l f c E V) : Dir gi gb (vflat img l) [] f c E V := by
  have e := fun k => vget_flat h.mp.dk.ok k
  refine ⟨h.mp.flat, fun k hk h0 => ?_⟩
  have q := h.ent k hk h0
  exact ⟨q.may, q.num, by rw [e]; exact q.w0, by rw [e]; exact q.w1, fun j hj => by rw [e]; exact q.wn j hj⟩
theorem Dir.drop (h : Dir gi gb img l f c E V) (hl : l.length + 4 ≤ 96) {p : Nat} (hp : p < 12) : ∃ m c', bDrop_M img l 1 gi gb 1 (p : Int) = some (0, m) ∧ Dir gi gb img m (upd f p 0) c' E V ∧ m.length ≤ l.length + 4 := by
  obtain ⟨m, c', e1, e2, e3, _, _, e6⟩ := h.mp.drop hp hl
  have hg := h.mp.dk.g
  have hnr := h.mp.nr
  refine ⟨m, c', e1, ⟨e3, fun j hj h0 => ?_⟩, e2⟩
  have ej : j ≠ p := fun q => h0 (by rw [q, upd_at])
  rw [upd_ne ej] at h0 ⊢
  have q := h.ent j hj h0
  have hr := h.mp.rf j hj
  have hrc := h.mp.rc
  have hfc := h.mp.fc j hj
  have hw : wordAt gi 1 c p = if p < 4 then 492 + 16 * 1 + (p : Int) else 484 + 16 * gi + 8 * c + (p : Int) := rfl
  have same : ∀ d : Int, 0 ≤ d ∧ d < 8 → vget img m (488 + 16 * gi + 8 * f j + d) = vget img l (488 + 16 * gi + 8 * f j + d) := fun d hd => by
    refine e6 _ (by omega) ?_ (by omega)
    rw [hw]
    by_cases hc0 : c = 0
    · split <;> omega
    · have := hfc hc0
      split <;> omega
  have hsz := mayB_iff.1 q.may
  refine ⟨q.may, q.num, ?_, ?_, fun t ht => ?_⟩
  · have := same 0 (by omega)
    rw [Int.add_zero] at this
    rw [this]; exact q.w0
  · rw [same 1 (by omega)]; exact q.w1
  · have := same (2 + (t : Int)) (by omega)
    rw [← Int.add_assoc] at this
    rw [this]; exact q.wn t ht
theorem Dir.eFind (h : Dir gi gb img l f c E V) (tx : ByteArray) : eFind_M img l 1 gi gb 1 tx = tfind_M img l 1 gi gb 1 tx := by
  unfold eFind_M
  rw [h.mp.iget, if_pos rfl, if_pos rfl]
  cases tfind_M img l 1 gi gb 1 tx <;> rfl
theorem Dir.eRemove (h : Dir gi gb img l f c E V) (hl : l.length + 4 ≤ 96) {tx : ByteArray} {p : Nat} (hp : p < 12) {v : Int} (hf : tfind_M img l 1 gi gb 1 tx = some (tx, v, (p : Int), 0)) : ∃ m c', eRemove_M img l 1 gi gb 1 tx = some (0, m) ∧ Dir gi gb img m (upd f p 0) c' E V ∧ m.length ≤ l.length + 4 := by
  obtain ⟨m, c', e1, e2, e3⟩ := h.drop hl hp
  refine ⟨m, c', ?_, e2, e3⟩
  unfold eRemove_M
  rw [h.mp.iget, if_pos rfl, if_pos rfl]
  refine bind_of hf ?_
  rw [if_pos rfl]
  exact bind_of e1 rfl
theorem emay2_ok {xi : Int} (hv : 1 ≤ xi ∧ xi < gi) : emay2_M gi xi = some 0 := by
  unfold emay2_M
  rw [if_neg (by omega), if_neg (by omega)]
theorem Dir.eAdd_none (h : Dir gi gb img l f c E V) {xn : ByteArray} {xi : Int} (hv : 1 ≤ xi ∧ xi < gi) (hf : tfind_M img l 1 gi gb 1 xn = some (ByteArray.empty, 0, 0, 6)) {r : Int × List (Int × Int)} (ha : tadd_M img l 1 gi gb 1 xn xi = some r) : eAdd_M img l 1 gi gb 1 xn xi = some r := by
  unfold eAdd_M
  refine bind_of (emay2_ok hv) ?_
  rw [if_pos rfl, h.mp.iget, if_pos rfl, if_pos rfl]
  refine bind_of hf ?_
  rw [if_neg (by decide), if_pos rfl]
  exact bind_of ha rfl
def entL (f : Nat → Int) (E : Nat → ByteArray) (V : Nat → Int) : Nat → List TEn
  | 0 => []
  | k + 1 => if f k = 0 then entL f E V k else entL f E V k ++ [⟨E k, V k⟩]
theorem entL_len (f : Nat → Int) (E : Nat → ByteArray) (V : Nat → Int) : ∀ k, (entL f E V k).length = (listF f k).length
  | 0 => rfl
  | k + 1 => by
    unfold entL listF
    split
    · exact entL_len f E V k
    · simp only [List.length_append, List.length_cons, List.length_nil, entL_len f E V k]
theorem listF_le (f : Nat → Int) : ∀ k, (listF f k).length ≤ k
  | 0 => by simp [listF]
  | k + 1 => by
    have := listF_le f k
    unfold listF
    split
    · omega
    · simp only [List.length_append, List.length_cons, List.length_nil]; omega
theorem listF_all {f : Nat → Int} : ∀ {k : Nat}, (∀ j, j < k → f j ≠ 0) → (listF f k).length = k
  | 0, _ => rfl
  | k + 1, h => by
    unfold listF
    rw [if_neg (h k (by omega)), List.length_append, listF_all fun j hj => h j (by omega)]
    rfl
theorem listF_drop {f : Nat → Int} {p : Nat} : ∀ {k : Nat}, p < k → f p ≠ 0 → (listF (upd f p 0) k).length + 1 = (listF f k).length
  | 0, h, _ => by omega
  | k + 1, h, h0 => by
    unfold listF
    by_cases e : k = p
    · subst e
      rw [upd_at, if_pos rfl, if_neg h0, List.length_append, listF_congr fun j hj => upd_ne (by omega)]
      rfl
    · rw [upd_ne e]
      have ih := listF_drop (f := f) (p := p) (k := k) (by omega) h0
      split
      · exact ih
      · simp only [List.length_append, List.length_cons, List.length_nil]; omega
end
end Go.Proofs.YtmmclabkkigiaaaGreatDoor

namespace Go.Proofs.YtmmclabkkigiaaaGreatDoor
open Go Go.RowKit
set_option linter.unusedVariables false
set_option linter.unusedSimpArgs false

section
variable {P : Program} {ops : Array Oper} {i : Nat} {s : Fs} {w : World}
def partA (a : Option Addr) (c k size : Nat) : Option Addr := if c = k then a else a.map (·.add (k * size))
theorem part_len {α : Type} {xs : List α} {k m : Nat} (h1 : k ≤ m) (h2 : m ≤ xs.length) : m - k = ((xs.drop k).take (m - k)).length := by
  rw [List.length_take, List.length_drop]
  omega
theorem part_cells {α : Type} (K : Kind α) {a : Option Addr} {c k m : Nat} {xs : List α} (h : CellsAt a (K.cells xs) w) (h1 : k ≤ m) (h2 : m ≤ xs.length) (h3 : m ≤ c) : CellsAt (partA a c k K.size) (K.cells ((xs.drop k).take (m - k))) w := by
  unfold partA
  by_cases e : c = k
  · rw [if_pos e, show m - k = 0 by omega, List.take_zero]
    cases a with
    | none => exact rfl
    | some ad =>
      intro j v hj
      rw [show K.cells [] = [] from rfl] at hj
      simp at hj
  · rw [if_neg e]
    cases a with
    | none =>
      have hx : xs = [] := by
        have hl := K.length xs
        rw [show K.cells xs = [] from h] at hl
        have hs := K.pos
        cases xs with
        | nil => rfl
        | cons x xs => simp only [List.length_nil, List.length_cons, Nat.add_mul, Nat.one_mul] at hl; omega
      subst hx
      simp only [List.drop_nil, List.take_nil, Option.map_none]
      exact rfl
    | some ad =>
      intro j v hj
      show w.cell? ((ad.add (k * K.size)).add j) = some v
      rw [add_add]
      refine h _ _ ?_
      have e1 : K.cells xs = K.cells (xs.take k) ++ (K.cells ((xs.drop k).take (m - k)) ++ K.cells ((xs.drop k).drop (m - k))) := by
        rw [← K.cells_append, ← K.cells_append, List.take_append_drop, List.take_append_drop]
      have hl : (K.cells (xs.take k)).length = k * K.size := by
        rw [K.length, List.length_take]
        congr 1
        omega
      have hj2 : j < (K.cells ((xs.drop k).take (m - k))).length := (List.getElem?_eq_some_iff.1 hj).1
      rw [e1, List.getElem?_append_right (by omega), hl, Nat.add_sub_cancel_left, List.getElem?_append_left hj2]
      exact hj
end
end Go.Proofs.YtmmclabkkigiaaaGreatDoor

namespace Go.Proofs.YtmmclabkkigiaaaGreatDoor
open Go Go.RowKit
set_option linter.unusedVariables false
set_option linter.unusedSimpArgs false
section
variable {gi gb : Int} {img : List Int} {l : List (Int × Int)} {f : Nat → Int} {c : Int} {E : Nat → ByteArray} {V : Nat → Int}
theorem Dir.eList (h : Dir gi gb img l f c E V) : eList_M img l 1 gi gb 1 = some (entL f E V 12, 0) := by
  suffices H : Ok (fun x => x = (entL f E V 12, 0)) (eList_M img l 1 gi gb 1) by
    obtain ⟨x, hx, rfl⟩ := H
    exact hx
  unfold eList_M
  rw [h.mp.iget]
  refine Ok.yes rfl (Ok.yes rfl (Ok.need (by omega) ?_))
  refine rounds_ok (fun k (q : List TEn) => q = entL f E V k) 12 (fun k c2 q hk hq ih => ?_) (fun q hq => ?_) _ _ _ (by omega) rfl
  · unfold eList_R46
    refine Ok.name fun z hz => ?_
    rw [show z = (k : Int) by omega]
    refine Ok.got15 (h.entry hk) ?_
    have hlen := entL_len f E V k
    have hle := listF_le f k
    by_cases h0 : f k = 0
    · rw [if_pos h0]
      refine Ok.yes rfl (Ok.yes ⟨rfl, rfl⟩ (ih _ ?_))
      unfold entL
      rw [if_pos h0]
      exact hq
    · rw [if_neg h0]
      have hm := mayB_iff.1 (h.ent k hk h0).may
      refine Ok.yes rfl (Ok.no (fun q => ?_) (Ok.need (by rw [hq]; simp only [List.length_cons, List.length_nil]; omega) (ih _ ?_)))
      · have e : E k = ByteArray.empty := q.1
        rw [e] at hm
        simp at hm
      · unfold entL
        rw [if_neg h0, hq]
  · unfold eList_D46
    exact Ok.some (by rw [hq])
end
section
variable {gi gb : Int} {img : List Int} {l : List (Int × Int)} {f : Nat → Int} {c : Int} {E : Nat → ByteArray} {V : Nat → Int}
end
end Go.Proofs.YtmmclabkkigiaaaGreatDoor

set_option linter.unusedVariables false
set_option maxRecDepth 20000
namespace Go.Proofs.YtmmclabkkigiaaaGreatDoor
open Go Go.RowKit
set_option linter.unusedSimpArgs false
set_option linter.unusedVariables false

def great15_B0 (ss : List TSt15) (k9 : Int → Option (Bool)) (p8 : Int) : Option (Bool) :=
 if p8 < (ss.length : Int) then (need (0 ≤ p8 ∧ p8 < (ss.length : Int)) <|
if (((ss.getD p8.toNat dSt15).c2).size : Int) > 500 then (some true) else (need (-9223372036854775808 ≤ (p8 + 1) ∧ (p8 + 1) ≤ 9223372036854775807) <|
k9 (p8 + 1))) else (some false)

def great15_M (ss : List TSt15) : Option (Bool) :=
 if (ss.length : Int) > 40 then (some true) else (iter (fun k_ s_ => great15_B0 ss k_ s_) FUEL 0)

theorem great15_walk {ss : List TSt15} {sa : Option Addr} {sc : Nat} {r : Bool} (B : Nat) (w : World) (hst : CellsAt sa (kSt15.cells ss) w) (hm : great15_M ss = some r) : Spec Tryz.prog 22 #[(.slice sa ss.length sc)] B w [] (fun v H' => v = .bool r ∧ H' = []) := by
 refine spec_Q Tryz.func22 rfl fun hs => ?_
 unfold great15_M at hm
 refine W.sr fun K1 hK1 => ?_
 refine zE 1 (hK1 _ _ ?_)
 refine W.seq fun K2 hK2 => ?_
 refine W.sr fun K3 hK3 => ?_
 refine zE 3 (hK3 _ _ ?_)
 refine W.cond (decide ((ss.length : Int) > 40)) (by kernel_rfl) (fun h4 => ?_) (fun h4 => ?_)
 ·
  obtain ⟨h4p, hm⟩ := iY hm h4
  refine W.sr fun K5 hK5 => ?_
  refine zE 1 (hK5 _ _ ?_)
  refine W.ret (ret_seq ?_)
  obtain rfl := some_inj hm
  refine ret_of (.bool true) (by kernel_rfl) ⟨_, ⟨rfl, rfl⟩, hs⟩
 ·
  obtain ⟨h4p, hm⟩ := iN hm h4
  refine W.skip ?_
  refine hK2 _ _ ?_
  refine W.seq fun K6 hK6 => ?_
  refine W.sr fun K7 hK7 => ?_
  refine zE 1 (hK7 _ _ ?_)
  refine W.block ?_
  refine W.loop_iter (G := Int) (σ := Int) (fun | p8 => p8) (fun | p8, s_, w_ => (∃ us, s_ = slots 21 [(0, (.slice sa ss.length sc)), (3, (.int .i64 p8))] us) ∧ St B w [] w_ []) 0 ⟨slots_intro _ (by kernel_rfl), hs⟩ hm ?_
  rintro k9 ih10 p8 _ w11 ⟨⟨us, rfl⟩, hs12⟩ hm
  replace hm : great15_B0 ss k9 p8 = some r := hm
  unfold great15_B0 at hm
  refine W.seq fun K13 hK13 => ?_
  refine W.sr fun K14 hK14 => ?_
  refine zE 4 (hK14 _ _ ?_)
  refine W.cond (decide (p8 < (ss.length : Int))) (by kernel_rfl) (fun h15 => ?_) (fun h15 => ?_)
  ·
   obtain ⟨h15p, hm⟩ := iY hm h15
   refine W.skip ?_
   refine hK13 _ _ ?_
   refine W.seq fun K16 hK16 => ?_
   refine W.block ?_
   refine W.sr fun K17 hK17 => ?_
   refine zR 2 ?_
   obtain ⟨h19, hm⟩ := need_some hm
   have hk18 := lt_toNat h19
   refine ops_R (runs_index (a := sa) (n := ss.length) (z := p8) (size := 5) p8.toNat (nat_of h19.1) hk18 (kSt15.addr (hs12.oldCells hst) hk18) (by kernel_rfl)) ?_
   refine zR 2 ?_
   refine zL ((adr sa (p8.toNat * 5)).add 2) (.string ((ss.getD p8.toNat dSt15).c2)) (kSt15.at (hs12.oldCells hst) hk18 dSt15 2 rfl) ?_
   refine zE 2 (hK17 _ _ ?_)
   refine W.cond (decide ((((ss.getD p8.toNat dSt15).c2).size : Int) > 500)) (by kernel_rfl) (fun h20 => ?_) (fun h20 => ?_)
   ·
    obtain ⟨h20p, hm⟩ := iY hm h20
    refine W.sr fun K21 hK21 => ?_
    refine zE 1 (hK21 _ _ ?_)
    refine W.ret (ret_block (ret_seq (ret_seq (ret_block (ret_seq ?_)))))
    obtain rfl := some_inj hm
    refine ret_of (.bool true) (by kernel_rfl) ⟨_, ⟨rfl, rfl⟩, hs12⟩
   ·
    obtain ⟨h20p, hm⟩ := iN hm h20
    refine W.skip ?_
    refine normal_block ?_
    refine hK16 _ _ ?_
    refine W.region ?_
    refine zR 1 ?_
    obtain ⟨h22, hm⟩ := need_some hm
    refine zI _ (wrap_i64 h22.1 h22.2) ?_
    refine zE 1 ?_
    refine loopAt_next ?_
    exact ih10 (p8 + 1) _ _ ⟨slots_intro _ (by kernel_rfl), hs12⟩ hm
  ·
   obtain ⟨h15p, hm⟩ := iN hm h15
   refine W.exit (exit_seq (exit_seq (exit_here ?_)))
   refine hK6 _ _ ?_
   refine W.sr fun K23 hK23 => ?_
   refine zE 1 (hK23 _ _ ?_)
   refine W.ret ?_
   obtain rfl := some_inj hm
   refine ret_of (.bool false) (by kernel_rfl) ⟨_, ⟨rfl, rfl⟩, hs12⟩

end Go.Proofs.YtmmclabkkigiaaaGreatDoor

namespace Go.Proofs.YtmmclabkkigiaaaGreatDoor
open Go Go.RowKit
set_option linter.unusedVariables false
set_option linter.unusedSimpArgs false
section
variable {gi gb : Int} {img : List Int} {l : List (Int × Int)} {f : Nat → Int} {c : Int} {E : Nat → ByteArray} {V : Nat → Int}
theorem great15_ok (ss : List TSt15) : Ok (fun b : Bool => b = false → ss.length ≤ 40) (great15_M ss) := by
  unfold great15_M
  refine Ok.ite (fun _ => Ok.some (fun q => by cases q)) fun hl => ?_
  refine Ok.iter (fun p : Int => 0 ≤ p ∧ p ≤ (ss.length : Int)) (fun p => ((ss.length : Int) - p).toNat) ?_ _ _ ⟨by omega, by omega⟩ (fuel_lt (by omega))
  intro k p hp ih
  unfold great15_B0
  refine Ok.ite (fun h => Ok.need (by omega) (Ok.ite (fun _ => Ok.some (fun q => by cases q)) fun _ => Ok.need (by omega) (ih _ (by omega) (by omega)))) fun h => Ok.some (fun _ => by omega)
theorem Dir.eChange (h : Dir gi gb img l f c E V) (hl : l.length + 1 ≤ 96) {tx : ByteArray} {p : Nat} (hp : p < 12) (h0 : f p ≠ 0) {v : Int} (hf : tfind_M img l 1 gi gb 1 tx = some (tx, v, (p : Int), 0)) {xi : Int} (hv : 1 ≤ xi ∧ xi < gi) :
    ∃ m, eChange_M img l 1 gi gb 1 tx xi = some (0, m) ∧ Dir gi gb img m f c E (updA V p xi) ∧ m.length ≤ l.length + 1 := by
  have hg := h.mp.dk.g
  have hlen := h.mp.dk.len
  have hr := h.mp.rf p hp
  have hpl := place9_in (n := f p) h.mp.dk.may (by omega)
  obtain ⟨m, e1, e2, e3, e4⟩ := h.mp.dk.write (a := 488 + 16 * gi + 8 * f p) (x := xi) (by omega) (by unfold U64; omega) (by omega)
  refine ⟨m, ?_, ⟨h.mp.data1 e2 hp h0 fun z hz => by rw [e4, if_neg (by omega)], fun j hj hj0 => ?_⟩, by omega⟩
  · unfold eChange_M
    refine bind_of (emay2_ok hv) ?_
    rw [if_pos rfl, h.mp.iget, if_pos rfl, if_pos rfl]
    refine bind_of hf ?_
    rw [if_pos rfl]
    refine bind_of (h.mp.at hp) ?_
    rw [if_pos rfl]
    refine need_of (by omega) ?_
    simp only
    rw [hpl, e1]
  · have q := h.ent j hj hj0
    have hrj := h.mp.rf j hj
    by_cases ej : j = p
    · subst ej
      rw [updA_at]
      refine ⟨q.may, hv, by rw [e4, if_pos rfl], ?_, fun t ht => ?_⟩
      · rw [e4, if_neg (by omega)]; exact q.w1
      · rw [e4, if_neg (by omega)]; exact q.wn t ht
    · rw [updA_ne ej]
      have hne : f j ≠ f p := fun e => ej (h.mp.inj j p hj hp hj0 e)
      have hsz := mayB_iff.1 q.may
      refine ⟨q.may, q.num, ?_, ?_, fun t ht => ?_⟩
      · rw [e4, if_neg (by omega)]; exact q.w0
      · rw [e4, if_neg (by omega)]; exact q.w1
      · rw [e4, if_neg (by omega)]; exact q.wn t ht
theorem Dir.eChange_no (h : Dir gi gb img l f c E V) {tx : ByteArray} {e : Int} (he : e ≠ 0) (hf : tfind_M img l 1 gi gb 1 tx = some (ByteArray.empty, 0, 0, e)) {xi : Int} (hv : 1 ≤ xi ∧ xi < gi) : eChange_M img l 1 gi gb 1 tx xi = some (e, l) := by
  unfold eChange_M
  refine bind_of (emay2_ok hv) ?_
  rw [if_pos rfl, h.mp.iget, if_pos rfl, if_pos rfl]
  refine bind_of hf ?_
  rw [if_neg he]
theorem Dir.eRemove_no (h : Dir gi gb img l f c E V) {tx : ByteArray} {e : Int} (he : e ≠ 0) (hf : tfind_M img l 1 gi gb 1 tx = some (ByteArray.empty, 0, 0, e)) : eRemove_M img l 1 gi gb 1 tx = some (e, l) := by
  unfold eRemove_M
  rw [h.mp.iget, if_pos rfl, if_pos rfl]
  refine bind_of hf ?_
  rw [if_neg he]
theorem Dir.eAdd_yes (h : Dir gi gb img l f c E V) {tx y : ByteArray} {v p : Int} (hf : tfind_M img l 1 gi gb 1 tx = some (y, v, p, 0)) {xi : Int} (hv : 1 ≤ xi ∧ xi < gi) : eAdd_M img l 1 gi gb 1 tx xi = some (9, l) := by
  unfold eAdd_M
  refine bind_of (emay2_ok hv) ?_
  rw [if_pos rfl, h.mp.iget, if_pos rfl, if_pos rfl]
  refine bind_of hf ?_
  rw [if_pos rfl]
theorem Dir.eAdd_bad (h : Dir gi gb img l f c E V) {tx : ByteArray} (hf : tfind_M img l 1 gi gb 1 tx = some (ByteArray.empty, 0, 0, 13)) {xi : Int} (hv : 1 ≤ xi ∧ xi < gi) : eAdd_M img l 1 gi gb 1 tx xi = some (13, l) := by
  unfold eAdd_M
  refine bind_of (emay2_ok hv) ?_
  rw [if_pos rfl, h.mp.iget, if_pos rfl, if_pos rfl]
  refine bind_of hf ?_
  rw [if_neg (by decide), if_neg (by decide)]
end
end Go.Proofs.YtmmclabkkigiaaaGreatDoor

namespace Go.Proofs.YtmmclabkkigiaaaGreatDoor
open Go Go.RowKit
set_option linter.unusedVariables false
set_option linter.unusedSimpArgs false
structure Tab (f : Nat → Int) (E : Nat → ByteArray) (V : Nat → Int) (ps : List Nat) (xs : List ByteArray) (ns : List Int) : Prop where
  nd : ps.Nodup
  mem : ∀ k, k ∈ ps ↔ k < 12 ∧ f k ≠ 0
  len : ps.length = (listF f 12).length
  hx : xs = ps.map E
  hn : ns = ps.map V
  inj : ∀ i j, i < 12 → j < 12 → f i ≠ 0 → f j ≠ 0 → E i = E j → i = j
section
variable {f : Nat → Int} {E : Nat → ByteArray} {V : Nat → Int} {ps : List Nat} {xs : List ByteArray} {ns : List Int}
theorem Tab.nil (V : Nat → Int) (E : Nat → ByteArray) : Tab (fun _ => 0) E V [] [] [] :=
  ⟨List.nodup_nil, fun k => ⟨fun h => absurd h (by simp), fun h => absurd rfl h.2⟩, rfl, rfl, rfl, fun i j _ _ h => absurd rfl h⟩
theorem Tab.add (t : Tab f E V ps xs ns) {p : Nat} {b : Int} (hp : p < 12) (h0 : f p = 0) (hb : b ≠ 0) {xn : ByteArray} {xi : Int} (hno : ∀ k, k < 12 → f k ≠ 0 → E k ≠ xn) :
    Tab (upd f p b) (updA E p xn) (updA V p xi) (ps ++ [p]) (xs ++ [xn]) (ns ++ [xi]) := by
  have hnp : p ∉ ps := fun h => ((t.mem p).1 h).2 h0
  have hne : ∀ k, k ∈ ps → k ≠ p := fun k hk e => hnp (e ▸ hk)
  refine ⟨?_, fun k => ?_, ?_, ?_, ?_, fun i j hi hj hi0 hj0 e => ?_⟩
  · have hperm : (ps ++ [p]).Perm (p :: ps) := by
      have := List.perm_middle (a := p) (l₁ := ps) (l₂ := [])
      rw [List.append_nil] at this
      exact this
    exact hperm.nodup_iff.2 (List.nodup_cons.2 ⟨hnp, t.nd⟩)
  · rw [List.mem_append, List.mem_singleton, t.mem]
    by_cases e : k = p
    · rw [e, upd_at]; exact ⟨fun _ => ⟨hp, hb⟩, fun _ => .inr rfl⟩
    · rw [upd_ne e]; exact ⟨fun q => q.elim id fun q => absurd q e, fun q => .inl q⟩
  · have := listF_upd (n := 12) h0 hb
    rw [if_pos hp] at this
    rw [List.length_append, t.len, this]
    rfl
  · rw [List.map_append, t.hx, List.map_congr_left fun k hk => updA_ne (f := E) (x := xn) (hne k hk)]
    simp only [List.map_cons, List.map_nil, updA_at]
  · rw [List.map_append, t.hn, List.map_congr_left fun k hk => updA_ne (f := V) (x := xi) (hne k hk)]
    simp only [List.map_cons, List.map_nil, updA_at]
  · by_cases ei : i = p
    · by_cases ej : j = p
      · rw [ei, ej]
      · rw [upd_ne ej] at hj0
        rw [ei, updA_at, updA_ne ej] at e
        exact absurd e.symm (hno j hj hj0)
    · rw [upd_ne ei] at hi0
      by_cases ej : j = p
      · rw [ej, updA_at, updA_ne ei] at e
        exact absurd e (hno i hi hi0)
      · rw [upd_ne ej] at hj0
        rw [updA_ne ei, updA_ne ej] at e
        exact t.inj i j hi hj hi0 hj0 e
theorem Tab.set (t : Tab f E V ps xs ns) {i p : Nat} (hi : i < ps.length) (hp : ps[i] = p) (xi : Int) : Tab f E (updA V p xi) ps xs (ns.set i xi) := by
  refine ⟨t.nd, t.mem, t.len, t.hx, ?_, t.inj⟩
  rw [t.hn]
  refine List.ext_getElem (by simp) fun j h1 h3 => ?_
  have h2 : j < ps.length := by rw [List.length_map] at h3; exact h3
  have hne := List.pairwise_iff_getElem.1 t.nd
  rw [List.getElem_set]
  by_cases e : i = j
  · subst e
    rw [if_pos rfl, List.getElem_map, hp, updA_at]
  · have hq : ps[j] ≠ p := by
      intro q
      by_cases hij : i < j
      · exact hne i j hi h2 hij (by rw [q, hp])
      · exact hne j i h2 hi (by omega) (by rw [q, hp])
    rw [if_neg e, List.getElem_map, List.getElem_map, updA_ne hq]
theorem Tab.del (t : Tab f E V ps xs ns) {i p : Nat} (hi : i < ps.length) (hp : ps[i] = p) :
    Tab (upd f p 0) E V (ps.take i ++ ps.drop (i + 1)) (xs.take i ++ xs.drop (i + 1)) (ns.take i ++ ns.drop (i + 1)) := by
  have e0 : ps = ps.take i ++ p :: ps.drop (i + 1) := by
    rw [← hp, List.getElem_cons_drop, List.take_append_drop]
  have hpm : p ∈ ps := by rw [← hp]; exact List.getElem_mem hi
  obtain ⟨hp12, hp0⟩ := (t.mem p).1 hpm
  have hperm : ps.Perm (p :: (ps.take i ++ ps.drop (i + 1))) := by
    have := List.perm_middle (a := p) (l₁ := ps.take i) (l₂ := ps.drop (i + 1))
    rwa [← e0] at this
  have hnd := hperm.nodup_iff.1 t.nd
  rw [List.nodup_cons] at hnd
  have hld := listF_drop (f := f) (p := p) (k := 12) hp12 hp0
  have hlen := hperm.length_eq
  rw [List.length_cons] at hlen
  refine ⟨hnd.2, fun k => ?_, ?_, ?_, ?_, fun i j hi hj hi0 hj0 e => ?_⟩
  · have hm := hperm.mem_iff (a := k)
    rw [List.mem_cons] at hm
    by_cases e : k = p
    · rw [e, upd_at]; exact ⟨fun q => absurd q hnd.1, fun q => absurd rfl q.2⟩
    · rw [upd_ne e, ← t.mem, hm]; exact ⟨.inr, fun q => q.elim (fun q => absurd q e) id⟩
  · have := t.len; omega
  · rw [t.hx, List.map_append, List.map_take, List.map_drop]
  · rw [t.hn, List.map_append, List.map_take, List.map_drop]
  · have ei : i ≠ p := fun q => hi0 (by rw [q, upd_at])
    have ej : j ≠ p := fun q => hj0 (by rw [q, upd_at])
    rw [upd_ne ei] at hi0
    rw [upd_ne ej] at hj0
    exact t.inj i j hi hj hi0 hj0 e
end
end Go.Proofs.YtmmclabkkigiaaaGreatDoor

namespace Go.Proofs.YtmmclabkkigiaaaGreatDoor
open Go Go.RowKit
set_option linter.unusedVariables false
set_option linter.unusedSimpArgs false
section
variable {gi gb : Int} {img : List Int} {l : List (Int × Int)} {c : Int} {f : Nat → Int} {E : Nat → ByteArray} {V : Nat → Int} {ps : List Nat} {xs : List ByteArray} {ns : List Int}
theorem Tab.xlen (t : Tab f E V ps xs ns) : xs.length = ps.length := by rw [t.hx, List.length_map]
theorem Tab.nlen (t : Tab f E V ps xs ns) : ns.length = ps.length := by rw [t.hn, List.length_map]
theorem Tab.xat (t : Tab f E V ps xs ns) {i p : Nat} (hi : i < ps.length) (hp : ps[i] = p) : xs.getD i ByteArray.empty = E p := by
  have h2 : i < (ps.map E).length := by rw [List.length_map]; exact hi
  rw [t.hx, List.getD_eq_getElem?_getD, List.getElem?_eq_getElem h2, List.getElem_map, hp]
  rfl
theorem Tab.nat (t : Tab f E V ps xs ns) {i p : Nat} (hi : i < ps.length) (hp : ps[i] = p) : ns.getD i 0 = V p := by
  have h2 : i < (ps.map V).length := by rw [List.length_map]; exact hi
  rw [t.hn, List.getD_eq_getElem?_getD, List.getElem?_eq_getElem h2, List.getElem_map, hp]
  rfl
theorem Tab.place (t : Tab f E V ps xs ns) {p : Nat} (hp : p < 12) (h0 : f p ≠ 0) : ∃ (i : Nat) (hi : i < ps.length), ps[i] = p :=
  List.getElem_of_mem ((t.mem p).2 ⟨hp, h0⟩)
theorem Tab.used (t : Tab f E V ps xs ns) {i p : Nat} (hi : i < ps.length) (hp : ps[i] = p) : p < 12 ∧ f p ≠ 0 :=
  (t.mem p).1 (by rw [← hp]; exact List.getElem_mem hi)
theorem Tab.found (t : Tab f E V ps xs ns) (h : Dir gi gb img l f c E V) {i p : Nat} (hi : i < ps.length) (hp : ps[i] = p) : tfind_M img l 1 gi gb 1 (E p) = some (E p, V p, (p : Int), 0) := by
  obtain ⟨p1, p2⟩ := t.used hi hp
  have hm := (h.ent p p1 p2).may
  rcases h.find (E p) with ⟨q, _⟩ | ⟨_, q, q1, q2, q3, q4⟩ | ⟨_, q, _⟩
  · rw [q] at hm; cases hm
  · have := t.inj q p q1 p1 q2 p2 q3
    subst this
    exact q4
  · exact absurd rfl (q p p1 p2)
theorem Tab.look (t : Tab f E V ps xs ns) (h : Dir gi gb img l f c E V) (tx : ByteArray) {at_ : Int} (ha : (at_ = -1 ∧ ∀ j : Nat, j < xs.length → xs.getD j ByteArray.empty ≠ tx) ∨ (0 ≤ at_ ∧ at_ < (xs.length : Int) ∧ xs.getD at_.toNat ByteArray.empty = tx)) :
    (at_ = -1 ∧ mayB tx = false ∧ tfind_M img l 1 gi gb 1 tx = some (ByteArray.empty, 0, 0, 13)) ∨
    (mayB tx = true ∧ ∃ (i p : Nat) (hi : i < ps.length), at_ = (i : Int) ∧ ps[i] = p ∧ p < 12 ∧ f p ≠ 0 ∧ E p = tx ∧ ns.getD i 0 = V p ∧ tfind_M img l 1 gi gb 1 tx = some (tx, V p, (p : Int), 0)) ∨
    (at_ = -1 ∧ mayB tx = true ∧ (∀ p, p < 12 → f p ≠ 0 → E p ≠ tx) ∧ tfind_M img l 1 gi gb 1 tx = some (ByteArray.empty, 0, 0, 6)) := by
  have hl := t.xlen
  rcases ha with ⟨a1, a2⟩ | ⟨a1, a2, a3⟩
  · have hno : ∀ p, p < 12 → f p ≠ 0 → E p ≠ tx := fun p p1 p2 e => by
      obtain ⟨i, hi, hp⟩ := t.place p1 p2
      exact a2 i (by omega) (by rw [t.xat hi hp, e])
    rcases h.find tx with ⟨q1, q2⟩ | ⟨_, q, q1, q2, q3, _⟩ | ⟨q1, _, q2⟩
    · exact .inl ⟨a1, q1, q2⟩
    · exact absurd q3 (hno q q1 q2)
    · exact .inr (.inr ⟨a1, q1, hno, q2⟩)
  · have hi : at_.toNat < ps.length := by omega
    obtain ⟨p, hp⟩ : ∃ p, ps[at_.toNat] = p := ⟨_, rfl⟩
    have e := t.xat hi hp
    rw [a3] at e
    obtain ⟨p1, p2⟩ := t.used hi hp
    have hf := t.found h hi hp
    rw [← e] at hf
    exact .inr (.inl ⟨by rw [e]; exact (h.ent p p1 p2).may, at_.toNat, p, hi, by omega, hp, p1, p2, e.symm, t.nat hi hp, hf⟩)
end
end Go.Proofs.YtmmclabkkigiaaaGreatDoor

namespace Go.Proofs.YtmmclabkkigiaaaGreatDoor
open Go Go.RowKit
set_option linter.unusedVariables false
def kStr : Kind ByteArray := ⟨9, 1, fun x => [.string x], by decide, fun _ => rfl, fun _ => rfl⟩
section
variable {P : Program} {ops : Array Oper} {i : Nat} {s : Fs} {w : World}
theorem runs_from {a : Option Addr} {n c size : Nat} {lo : Int} (k n' : Nat) (hlo : lo = (k : Int)) (h1 : k ≤ n) (h2 : n ≤ c) (e : n - k = n') (hq : sliceQ P ops i s = some ((a, n, c), some lo, none, size)) :
    RunsTo P ops i s w (.slice (partA a c k size) n' (c - k)) w := by
  subst e
  exact runs_slice k n (.inl (by rw [hlo])) (.inr ⟨rfl, rfl⟩) h1 h2 hq
end
end Go.Proofs.YtmmclabkkigiaaaGreatDoor

namespace Go.Proofs.YtmmclabkkigiaaaGreatDoor
open Go Go.RowKit
set_option linter.unusedVariables false
section
variable {B : Nat} {w : World} {l : List Nat}
end
theorem part_nil {a : Option Addr} {c k size : Nat} (h : a = none → c = 0) (e : partA a c k size = none) : c - k = 0 := by
  unfold partA at e
  split at e
  · omega
  · cases a with
    | none => have := h rfl; omega
    | some a => cases e
section
variable {M : Bool} {P : Program} {ops : Array Oper} {i : Nat} {s : Fs} {w : World} {K : Fs → World → Prop}
end
end Go.Proofs.YtmmclabkkigiaaaGreatDoor
