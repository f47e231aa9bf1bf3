/- Texts, one behind the other: PEb, Qa, Pf, Pt, PEd, PEc, PEe, PEf, ALeFu, PLeFu. -/
import Derived.Test.YtmmclabkkigiaaaGreatDoorQEN6
set_option linter.unusedVariables false
set_option linter.unusedSimpArgs false
namespace Go.Proofs.YtmmclabkkigiaaaGreatDoor
open Go Go.RowKit
set_option linter.unusedVariables false
set_option linter.unusedSimpArgs false

def bytesF (ws : List Int) (n : Nat) : List Int := (List.range n).map fun (j : Nat) => shrK .u64 (ws.getD (j / 8) 0) (8 * ((j % 8 : Nat) : Int)) % 256
theorem bytesF_succ (ws : List Int) (n : Nat) : bytesF ws (n + 1) = bytesF ws n ++ [shrK .u64 (ws.getD (n / 8) 0) (8 * ((n % 8 : Nat) : Int)) % 256] := by
  unfold bytesF
  rw [List.range_succ, List.map_append]
  rfl
theorem bytesF_len (ws : List Int) (n : Nat) : (bytesF ws n).length = n := by unfold bytesF; simp
theorem quo8 {p : Int} (h : 0 ≤ p) : p.tdiv 8 = p / 8 := Int.tdiv_eq_ediv_of_nonneg h
theorem rem8 {p : Int} (h : 0 ≤ p) : p.tmod 8 = p % 8 := Int.tmod_eq_emod_of_nonneg h
theorem unpack_eq {ws : List Int} {n : Int} (h0 : 0 ≤ n) (hn : n ≤ 8 * (ws.length : Int)) (hl : ws.length ≤ 1000) : unpack_M ws n = some (strOfNums (bytesF ws n.toNat), 0) := by
  unfold unpack_M
  rw [if_neg (by omega), need, if_pos (by omega), if_neg (by omega), need, if_pos (by omega)]
  refine iter_run (fun s => 0 ≤ s.2 ∧ s.2 ≤ n ∧ s.1.length = n.toNat ∧ s.1.take s.2.toNat = bytesF ws s.2.toNat) (fun s => (n - s.2).toNat) ?_ _ _ ⟨by simp, by simp; omega, by simp, rfl⟩ (fuel_lt (by simp only; omega))
  rintro k ⟨q, p⟩ ⟨h1, h2, h3, h4⟩ ih
  simp only at h1 h2 h3 h4 ih
  unfold unpack_B0
  simp only
  by_cases h : p < n
  · rw [if_pos (by omega), quo8 h1, rem8 h1]
    refine need_of (by omega) (need_of (by omega) (need_of (by omega) (need_of (by omega) (need_of (by omega) (need_of (by omega) (need_of (by omega) (ih _ ⟨by simp only; omega, by simp only; omega, by simp only [List.length_set]; exact h3, ?_⟩ (by simp only; omega))))))))
    simp only
    rw [show (p + 1).toNat = p.toNat + 1 by omega, bytesF_succ, ← h4, show (p / 8).toNat = p.toNat / 8 by omega, show ((p.toNat % 8 : Nat) : Int) = p % 8 by omega]
    have hlt : p.toNat < q.length := by omega
    rw [List.take_add_one, List.take_set_of_le (Nat.le_refl _)]
    simp [hlt]
  · rw [if_neg (by omega)]
    refine need_of (by omega) ?_
    have e : p = n := by omega
    subst e
    rw [List.take_of_length_le (by omega)] at h4
    rw [h4]

def valB : List Int → Int
  | [] => 0
  | b :: bs => b + 256 * valB bs
def Byt (xs : List Int) : Prop := ∀ x ∈ xs, 0 ≤ x ∧ x < 256
theorem Byt.nil : Byt [] := by intro x hx; simp at hx
theorem Byt.cons {x : Int} {xs : List Int} (h : Byt (x :: xs)) : (0 ≤ x ∧ x < 256) ∧ Byt xs := ⟨h x (by simp), fun y hy => h y (by simp [hy])⟩
theorem Byt.drop {xs : List Int} (h : Byt xs) (n : Nat) : Byt (xs.drop n) := fun x hx => h x (List.mem_of_mem_drop hx)
theorem Byt.take {xs : List Int} (h : Byt xs) (n : Nat) : Byt (xs.take n) := fun x hx => h x (List.mem_of_mem_take hx)
theorem byt_str (s : ByteArray) : Byt (strNums s) := by
  intro x hx
  unfold strNums at hx
  obtain ⟨b, _, rfl⟩ := List.mem_map.1 hx
  have := b.toNat_lt
  omega
theorem Byt.getD {xs : List Int} (h : Byt xs) (k : Nat) : 0 ≤ xs.getD k 0 ∧ xs.getD k 0 < 256 := by
  rw [List.getD_eq_getElem?_getD]
  rcases Nat.lt_or_ge k xs.length with hk | hk
  · rw [List.getElem?_eq_getElem hk]; exact h _ (List.getElem_mem hk)
  · rw [List.getElem?_eq_none hk]; simp
theorem valB_range : ∀ {xs : List Int}, Byt xs → 0 ≤ valB xs ∧ valB xs < 256 ^ xs.length
  | [], _ => by simp [valB]
  | x :: xs, h => by
    have h1 := h.cons.1
    have h2 := valB_range h.cons.2
    simp only [valB, List.length_cons, Int.pow_succ]
    omega
theorem pow256 {n : Nat} (h : n ≤ 8) : (256 : Int) ^ n ≤ 18446744073709551616 := by
  have : n = 0 ∨ n = 1 ∨ n = 2 ∨ n = 3 ∨ n = 4 ∨ n = 5 ∨ n = 6 ∨ n = 7 ∨ n = 8 := by omega
  rcases this with rfl | rfl | rfl | rfl | rfl | rfl | rfl | rfl | rfl <;> decide
theorem valB_u64 {xs : List Int} (h : Byt xs) (hl : xs.length ≤ 8) : U64 (valB xs) := by
  have := valB_range h
  have := pow256 hl
  unfold U64; omega
theorem valB_byte : ∀ {xs : List Int}, Byt xs → ∀ j : Nat, valB xs / 256 ^ j % 256 = xs.getD j 0
  | [], _, j => by simp [valB]
  | x :: xs, h, 0 => by
    have h1 := h.cons.1
    simp only [valB, Int.pow_zero, Int.ediv_one, List.getD_cons_zero]
    omega
  | x :: xs, h, j + 1 => by
    have h1 := h.cons.1
    have ih := valB_byte h.cons.2 j
    have e : (x + 256 * valB xs) / 256 = valB xs := by omega
    rw [valB, List.getD_cons_succ, ← ih, Int.pow_succ, Int.mul_comm (256 ^ j) 256, ← Int.ediv_ediv_of_nonneg (by decide), e]
theorem pow8 {j : Nat} (h : j < 8) : (2 : Int) ^ (min (8 * (j : Int)).toNat 64) = 256 ^ j := by
  have : j = 0 ∨ j = 1 ∨ j = 2 ∨ j = 3 ∨ j = 4 ∨ j = 5 ∨ j = 6 ∨ j = 7 := by omega
  rcases this with rfl | rfl | rfl | rfl | rfl | rfl | rfl | rfl <;> decide
theorem shr_bytes {v : Int} {j : Nat} (hv : 0 ≤ v) (h : j < 8) : shrK .u64 v (8 * (j : Int)) = v / 256 ^ j := by
  unfold shrK
  show v.fdiv (2 ^ (min (8 * (j : Int)).toNat 64)) = _
  rw [pow8 h, Int.fdiv_eq_ediv_of_nonneg]
  exact Int.pow_nonneg (by decide)
def packF (s : ByteArray) : List Int := (List.range ((s.size + 7) / 8)).map fun (q : Nat) => valB (((strNums s).drop (8 * q)).take 8)
theorem packF_len (s : ByteArray) : (packF s).length = (s.size + 7) / 8 := by unfold packF; simp
theorem packF_get (s : ByteArray) {q : Nat} (h : q < (s.size + 7) / 8) : (packF s).getD q 0 = valB (((strNums s).drop (8 * q)).take 8) := by
  unfold packF
  simp [List.getD, h]
theorem packF_u64 (s : ByteArray) : ∀ x ∈ packF s, U64 x := by
  intro x hx
  unfold packF at hx
  obtain ⟨q, _, rfl⟩ := List.mem_map.1 hx
  exact valB_u64 (((byt_str s).drop _).take _) (by simp; omega)
theorem getD_part (xs : List Int) (q j : Nat) (h : j < 8) : ((xs.drop (8 * q)).take 8).getD j 0 = xs.getD (8 * q + j) 0 := by
  simp only [List.getD_eq_getElem?_getD, List.getElem?_take, if_pos h, List.getElem?_drop]
theorem bytesF_get (ws : List Int) {n j : Nat} (h : j < n) : (bytesF ws n).getD j 0 = shrK .u64 (ws.getD (j / 8) 0) (8 * ((j % 8 : Nat) : Int)) % 256 := by
  unfold bytesF
  simp [List.getD, h]
theorem bytesF_pack {s : ByteArray} {ws : List Int} (h : ∀ q, q < (s.size + 7) / 8 → ws.getD q 0 = (packF s).getD q 0) : bytesF ws s.size = strNums s := by
  refine eq_of_getD 0 (by rw [bytesF_len, strNums_len]) fun j h1 => ?_
  rw [bytesF_len] at h1
  have hb : Byt (((strNums s).drop (8 * (j / 8))).take 8) := ((byt_str s).drop _).take _
  rw [bytesF_get ws h1, h _ (by omega), packF_get s (by omega), shr_bytes (valB_range hb).1 (by omega), valB_byte hb, getD_part _ _ _ (by omega), show 8 * (j / 8) + j % 8 = j by omega]
theorem str_nums (s : ByteArray) : strOfNums (strNums s) = s := by
  unfold strOfNums strNums
  cases s with | mk d =>
  congr 1
  apply Array.ext'
  simp [List.map_map, Function.comp_def]


variable {img : List Int} {l : List (Int × Int)}
theorem or_byte {n b : Int} (hn : 0 ≤ n ∧ n < 72057594037927936) (hb : 0 ≤ b ∧ b < 256) : bits .or .u64 (shlK .u64 n 8) b = b + 256 * n := by
  have e : shlK .u64 n 8 = 256 * n := by
    unfold shlK
    show IntKind.u64.wrap (n * 2 ^ (min (8 : Int).toNat 64)) = _
    rw [show (2 : Int) ^ (min (8 : Int).toNat 64) = 256 by decide, wrap_u64 (by omega) (by omega)]
    omega
  rw [e]
  have hx : U64 (256 * n) := by unfold U64; omega
  have hy : U64 b := by unfold U64; omega
  refine bitI_ext (bits_u64 hx hy) (by unfold U64; omega) fun j _ => ?_
  rw [bitI_or hx hy]
  unfold bitI
  obtain ⟨a, rfl⟩ := Int.eq_ofNat_of_zero_le hn.1
  obtain ⟨c, rfl⟩ := Int.eq_ofNat_of_zero_le hb.1
  rw [show (256 * (a : Int)).toNat = a <<< 8 by rw [Nat.shiftLeft_eq]; omega, show ((c : Int) + 256 * (a : Int)).toNat = a <<< 8 + c by rw [Nat.shiftLeft_eq]; omega,
    Nat.shiftLeft_add_eq_or_of_lt (show c < 2 ^ 8 by omega), Nat.testBit_or, Int.toNat_natCast]
theorem opack_eq {s : ByteArray} (hs : s.size ≤ 1000000) : opack_M s = some (packF s) := by
  unfold opack_M
  refine need_of hs ?_
  have hlen := strNums_len s
  have inner : ∀ (k : Nat) (c : List Int → Option (List Int)) (q : List Int), 8 * k < s.size → ∀ (m j : Nat), j + m = partN s.size k →
      rounds (fun k_ c_ s_ => opack_R108 s k k_ c_ s_) (fun s_ => opack_D108 c q s_) m j (valB ((((strNums s).drop (8 * k)).take (partN s.size k)).drop (partN s.size k - j))) =
      opack_D108 c q (valB (((strNums s).drop (8 * k)).take (partN s.size k))) := by
    intro k c q hk m
    have hp := part_pos hk
    have hb : Byt (((strNums s).drop (8 * k)).take (partN s.size k)) := ((byt_str s).drop _).take _
    have hl : (((strNums s).drop (8 * k)).take (partN s.size k)).length = partN s.size k := by simp only [List.length_take, List.length_drop, hlen]; omega
    induction m with
    | zero =>
      intro j hj
      rw [show partN s.size k - j = 0 by omega, List.drop_zero]
      rfl
    | succ m ih =>
      intro j hj
      show opack_R108 s k j _ _ = _
      unfold opack_R108
      simp only [Option.bind]
      have e1 : ((strNums s).drop (8 * k)).getD (partN s.size k - 1 - j) 0 = (((strNums s).drop (8 * k)).take (partN s.size k)).getD (partN s.size k - 1 - j) 0 := by
        simp only [List.getD_eq_getElem?_getD, List.getElem?_take]
        rw [if_pos (by omega)]
      rw [e1]
      generalize hX : ((strNums s).drop (8 * k)).take (partN s.size k) = X at *
      have hg := hb.getD (partN s.size k - 1 - j)
      refine need_of (by omega) ?_
      have hr := valB_range (hb.drop (partN s.size k - j))
      have hlt : (X.drop (partN s.size k - j)).length = j := by rw [List.length_drop]; omega
      rw [hlt] at hr
      have h7 : (256 : Int) ^ j ≤ 72057594037927936 := by
        have : j = 0 ∨ j = 1 ∨ j = 2 ∨ j = 3 ∨ j = 4 ∨ j = 5 ∨ j = 6 ∨ j = 7 := by omega
        rcases this with rfl | rfl | rfl | rfl | rfl | rfl | rfl | rfl <;> decide
      rw [or_byte (by omega) hg]
      have e2 : X.drop (partN s.size k - (j + 1)) = X.getD (partN s.size k - 1 - j) 0 :: X.drop (partN s.size k - j) := by
        have hlt2 : partN s.size k - (j + 1) < X.length := by omega
        rw [List.drop_eq_getElem_cons hlt2, show partN s.size k - (j + 1) + 1 = partN s.size k - j by omega, show partN s.size k - 1 - j = partN s.size k - (j + 1) by omega]
        simp [List.getD, hlt2]
      have := ih (j + 1) (by omega)
      rw [e2, valB] at this
      exact this
  have outer : ∀ (m k : Nat), k + m = (s.size + 7) / 8 → rounds (fun k_ c_ s_ => opack_R27 s k_ c_ s_) (fun s_ => opack_D27 s_) m k ((packF s).take k) = some (packF s) := by
    intro m
    have hpl := packF_len s
    induction m with
    | zero =>
      intro k hk
      rw [List.take_of_length_le (by omega)]
      rfl
    | succ m ih =>
      intro k hk
      have h8 : 8 * k < s.size := by omega
      have := inner k (rounds (fun k_ c_ s_ => opack_R27 s k_ c_ s_) (fun s_ => opack_D27 s_) m (k + 1)) ((packF s).take k) h8 (partN s.size k) 0 (by omega)
      rw [Nat.sub_zero, List.drop_of_length_le (by simp only [List.length_take]; omega)] at this
      refine Eq.trans (show _ = opack_D108 (rounds (fun k_ c_ s_ => opack_R27 s k_ c_ s_) (fun s_ => opack_D27 s_) m (k + 1)) ((packF s).take k) (valB (((strNums s).drop (8 * k)).take (partN s.size k))) from this) ?_
      unfold opack_D108 opack_J3
      refine need_of (by simp only [List.length_take]; omega) ?_
      have e : (packF s).take k ++ [valB (((strNums s).drop (8 * k)).take (partN s.size k))] = (packF s).take (k + 1) := by
        rw [take_snoc 0 (by omega), packF_get s (by omega)]
        congr 3
        unfold partN
        split
        · rw [List.take_of_length_le (by simp only [List.length_drop]; omega), List.take_of_length_le (by simp only [List.length_drop]; omega)]
        · rfl
      rw [e]
      exact ih (k + 1) (by omega)
  exact outer _ 0 (by omega)


end Go.Proofs.YtmmclabkkigiaaaGreatDoor

namespace Go.Proofs.YtmmclabkkigiaaaGreatDoor
open Go Go.RowKit
set_option linter.unusedVariables false

section
variable {img : List Int} {l : List (Int × Int)} {at_ many : Int}

def VI (img : List Int) (l : List (Int × Int)) : Prop := VR img l ∧ l.length ≤ 96
theorem VI.nil (h : ∀ x ∈ img, U64 x) : VI img [] := ⟨VR.nil h, by simp⟩
theorem VI.vput {a x : Int} (h : VI img l) (hx : U64 x) : VI img (vput img l a x).2 := by
  unfold Go.Proofs.YtmmclabkkigiaaaGreatDoor.vput
  split
  · rename_i ha
    cases hl : vlook l a with
    | some y =>
      simp only
      exact ⟨h.1.put ha hx, by rw [vset_length_some (by rw [hl]; rfl)]; exact h.2⟩
    | none =>
      simp only
      split
      · exact h
      · refine ⟨h.1.put ha hx, ?_⟩
        rw [vset_none hl]
        simp
        omega
  · exact h
theorem VI.mset {i_ : Int} {is_ : Bool} (h : VI img l) : VI img (msetF img l at_ many i_ is_).2 := by
  unfold msetF
  split
  · exact h.vput (setb_u64 (h.1 _) (by omega))
  · exact h
def clearF (img : List Int) : List (Int × Int) → List Int → Int × List (Int × Int)
  | l, [] => (0, l)
  | l, n :: ns => if (vput img l n 0).1 = 0 then clearF img (vput img l n 0).2 ns else vput img l n 0
theorem VI.clear : ∀ {ns : List Int} {l : List (Int × Int)}, VI img l → VI img (clearF img l ns).2
  | [], _, h => h
  | n :: ns, l, h => by
    unfold clearF
    split
    · exact VI.clear (h.vput u64_zero)
    · exact h.vput u64_zero
theorem aclear_ok (ns : List Int) (hl : ns.length ≤ 1000000) : aclear_M img l ns = some (clearF img l ns) := by
  unfold aclear_M
  refine iter_run (fun s => 0 ≤ s.2 ∧ s.2 ≤ (ns.length : Int) ∧ clearF img s.1 (ns.drop s.2.toNat) = clearF img l ns) (fun s => ((ns.length : Int) - s.2).toNat) ?_ _ _ ⟨by simp, by simp, rfl⟩ (fuel_lt (by simp only; omega))
  rintro k ⟨m, p⟩ ⟨h1, h2, h3⟩ ih
  simp only at h1 h2 h3 ih
  unfold aclear_B0
  simp only
  by_cases h : p < (ns.length : Int)
  · have hlt : p.toNat < ns.length := by omega
    have e : ns.drop p.toNat = ns.getD p.toNat 0 :: ns.drop (p + 1).toNat := by
      rw [List.drop_eq_getElem_cons hlt, show (p + 1).toNat = p.toNat + 1 by omega]
      simp [hlt]
    rw [e, clearF] at h3
    rw [if_pos h]
    refine need_of ⟨h1, h⟩ (bind_of rfl ?_)
    by_cases h0 : (vput img m (ns.getD p.toNat 0) 0).1 = 0
    · rw [if_pos h0] at h3 ⊢
      exact need_of (by omega) (ih _ ⟨by simp only; omega, by simp only; omega, h3⟩ (by simp only; omega))
    · rw [if_neg h0] at h3 ⊢
      rw [← h3]
  · rw [if_neg h, ← h3, List.drop_of_length_le (by omega)]
    rfl
def ownL (p : Int) : List Int := [p + 0, p + 1, p + 2, p + 3, p + 4, p + 5, p + 6, p + 7]

def takeBF (img : List Int) (l : List (Int × Int)) (gw gi gb at_ : Int) : Int × Int × List (Int × Int) :=
  if (lst (mbits img l at_) gb.toNat).2 = true then
    if (msetF img l at_ gb (lst (mbits img l at_) gb.toNat).1 true).1 = 0 then
      if (clearF img (msetF img l at_ gb (lst (mbits img l at_) gb.toNat).1 true).2 (ownL (placeOf 9 gw gi gb (lst (mbits img l at_) gb.toNat).1))).1 = 0 then
        ((lst (mbits img l at_) gb.toNat).1, 0, (clearF img (msetF img l at_ gb (lst (mbits img l at_) gb.toNat).1 true).2 (ownL (placeOf 9 gw gi gb (lst (mbits img l at_) gb.toNat).1))).2)
      else (0, clearF img (msetF img l at_ gb (lst (mbits img l at_) gb.toNat).1 true).2 (ownL (placeOf 9 gw gi gb (lst (mbits img l at_) gb.toNat).1)))
    else (0, (msetF img l at_ gb (lst (mbits img l at_) gb.toNat).1 true).1, (msetF img l at_ gb (lst (mbits img l at_) gb.toNat).1 true).2)
  else (0, 7, l)
def giveF (img : List Int) (l : List (Int × Int)) (at_ many n_ : Int) : Int × List (Int × Int) :=
  if 1 ≤ n_ ∧ n_ < many then (if mbits img l at_ n_.toNat = true then msetF img l at_ many n_ false else (3, l)) else (1, l)
theorem VI.takeB {gw gi gb : Int} (h : VI img l) : VI img (takeBF img l gw gi gb at_).2.2 := by
  unfold takeBF
  split
  · split
    · split <;> exact VI.clear h.mset
    · exact h.mset
  · exact h
theorem VI.give {n_ : Int} (h : VI img l) : VI img (giveF img l at_ many n_).2 := by
  unfold giveF
  split
  · split
    · exact h.mset
    · exact h
  · exact h
theorem place9 (gw gi gb n : Int) : -1 ≤ placeOf 9 gw gi gb n ∧ placeOf 9 gw gi gb n ≤ 7000 := by
  unfold placeOf
  split
  · rename_i h
    have h_ := may_out h
    simp only
    split <;> omega
  · omega

theorem atakeb_ok {gw gi gb : Int} (hv : VR img l) (ha : 0 ≤ at_ ∧ at_ ≤ 1000000000000) (hm : 1 ≤ gb ∧ gb ≤ 1000000000000) : atakeb_M img l gw gi gb at_ = some (takeBF img l gw gi gb at_) := by
  unfold atakeb_M atake1_M
  have key : ((mclear_M img l at_ gb).bind fun r6 => if r6.2 = true then ((mset_M img l at_ gb r6.1 true).bind fun r15 => if r15.1 = 0 then (atake1_J2 img gw gi gb r6 r15 true) else (atake1_J2 img gw gi gb r6 r15 false)) else (some (0, 7, l))) = some (takeBF img l gw gi gb at_) := by
    refine bind_of (mclear_ok hv ha hm) ?_
    unfold takeBF
    split
    · refine bind_of (mset_ok hv ha hm.2) ?_
      split
      · rename_i h0
        unfold atake1_J2
        rw [if_pos rfl]
        have hp := place9 gw gi gb (lst (mbits img l at_) gb.toNat).1
        refine need_of (by omega) (bind_of (aclear_ok _ (by simp)) ?_)
        unfold atake1_J1
        change (if (clearF _ _ (ownL _)).1 = 0 then _ else _) = _
        split <;> rfl
      · rename_i h0
        unfold atake1_J2
        rw [if_neg (by decide)]
        unfold atake1_J1
        rw [if_neg h0]
    · rfl
  exact bind_of key rfl
theorem agive_ok {n_ : Int} (hv : VR img l) (ha : 0 ≤ at_ ∧ at_ ≤ 1000000000000) (hm : many ≤ 1000000000000) : pgive_M img l at_ many many n_ = some (giveF img l at_ many n_) := by
  have j1f : ∀ h : 1 ≤ n_ ∧ n_ < many, pgive_J1 img l at_ many n_ false = some (giveF img l at_ many n_) := by
    intro h
    unfold pgive_J1 giveF
    rw [if_neg (by decide), if_pos h]
    refine bind_of (mget_ok hv ha hm) ?_
    rw [decide_eq_true (by omega), Bool.true_and]
    split
    · exact bind_of (mset_ok hv ha hm) rfl
    · rfl
  have j1t : ∀ h : ¬ (1 ≤ n_ ∧ n_ < many), pgive_J1 img l at_ many n_ true = some (giveF img l at_ many n_) := by
    intro h
    unfold pgive_J1 giveF
    rw [if_pos rfl, if_neg h]
  unfold pgive_M
  by_cases h1 : n_ < 1
  · rw [if_pos h1, decide_eq_true h1]; exact j1t (by omega)
  · rw [if_neg h1]
    by_cases h2 : n_ ≥ many
    · rw [decide_eq_true h2]; exact j1t (by omega)
    · rw [decide_eq_false h2]; exact j1f (by omega)
def freeF (img : List Int) (l : List (Int × Int)) (gi gb ia ba : Int) : Int × Int := (gi - (cnt (mbits img l ia) gi.toNat : Nat), gb - (cnt (mbits img l ba) gb.toNat : Nat))
theorem afree_ok {gi gb ia ba : Int} (hv : VR img l) (h1 : 0 ≤ ia ∧ ia ≤ 1000000000000) (h2 : 0 ≤ ba ∧ ba ≤ 1000000000000) (h3 : 1 ≤ gi ∧ gi ≤ 1000000000000) (h4 : 1 ≤ gb ∧ gb ≤ 1000000000000) : afree_M img l gi gb ia ba = some (freeF img l gi gb ia ba) := by
  have c1 := cnt_le (mbits img l ia) gi.toNat
  have c2 := cnt_le (mbits img l ba) gb.toNat
  have k1 : pfree_M img l ia gi gi = some (gi - (cnt (mbits img l ia) gi.toNat : Nat)) := by
    unfold pfree_M
    exact bind_of (mcount_ok hv h1 h3) (need_of (by omega) rfl)
  have k2 : pfree_M img l ba gb gb = some (gb - (cnt (mbits img l ba) gb.toNat : Nat)) := by
    unfold pfree_M
    exact bind_of (mcount_ok hv h2 h4) (need_of (by omega) rfl)
  unfold afree_M
  exact bind_of k1 (bind_of k2 rfl)
end
end Go.Proofs.YtmmclabkkigiaaaGreatDoor

namespace Go.Proofs.YtmmclabkkigiaaaGreatDoor
open Go Go.RowKit
set_option linter.unusedVariables false

theorem getD_set {α : Type} {l : List α} {i k : Nat} {x d : α} (hi : i < l.length) : (l.set i x).getD k d = if k = i then x else l.getD k d := by
  rw [List.getD_eq_getElem?_getD, List.getD_eq_getElem?_getD, List.getElem?_set]
  by_cases h : i = k
  · subst h
    rw [if_pos rfl, if_pos rfl, if_pos hi]; rfl
  · rw [if_neg h, if_neg (fun e => h e.symm)]
theorem fmt_get {gw gi gb : Int} (hm : May gw gi gb) {k : Nat} (hk : (k : Int) < wordsOf gw gi gb) :
    (fmtW gw gi gb).getD k 0 = if (k : Int) = 297 + 208 * gw then 1 else if (k : Int) = 296 + 208 * gw then 2 else if (k : Int) = 272 + 208 * gw then 1 else if (k : Int) = 264 + 208 * gw then 3 else
      if k = 3 then gb else if k = 2 then gi else if k = 1 then gw else if k = 0 then 32762617960297063 else 0 := by
  have hm_ := may_out hm
  have hw := words_may hm
  have p6 := place6 hm
  have p7 := place7 hm
  have p8 := place8_in (n := 1) hm (by omega)
  have hl : (List.replicate (wordsOf gw gi gb).toNat (0 : Int)).length = (wordsOf gw gi gb).toNat := List.length_replicate
  unfold fmtW
  rw [if_pos hm, getD_set (by simp only [List.length_set, hl]; omega), getD_set (by simp only [List.length_set, hl]; omega), getD_set (by simp only [List.length_set, hl]; omega), getD_set (by simp only [List.length_set, hl]; omega),
    getD_set (by simp only [List.length_set, hl]; omega), getD_set (by simp only [List.length_set, hl]; omega), getD_set (by simp only [List.length_set, hl]; omega), getD_set (by simp only [hl]; omega)]
  have e0 : (List.replicate (wordsOf gw gi gb).toNat (0 : Int)).getD k 0 = 0 := by
    rw [List.getD_eq_getElem?_getD, List.getElem?_replicate]
    split <;> rfl
  rw [e0, p6, p7, p8]
  have c1 : (k = (280 + 208 * gw + 16 * 1 + 1).toNat) ↔ ((k : Int) = 297 + 208 * gw) := by omega
  have c2 : (k = (280 + 208 * gw + 16 * 1).toNat) ↔ ((k : Int) = 296 + 208 * gw) := by omega
  have c3 : (k = (272 + 208 * gw).toNat) ↔ ((k : Int) = 272 + 208 * gw) := by omega
  have c4 : (k = (264 + 208 * gw).toNat) ↔ ((k : Int) = 264 + 208 * gw) := by omega
  simp only [c1, c2, c3, c4]
theorem fmt_vget {gw gi gb : Int} (hm : May gw gi gb) {k : Int} (hk : 0 ≤ k ∧ k < wordsOf gw gi gb) :
    vget (fmtW gw gi gb) [] k = if k = 297 + 208 * gw then 1 else if k = 296 + 208 * gw then 2 else if k = 272 + 208 * gw then 1 else if k = 264 + 208 * gw then 3 else
      if k = 3 then gb else if k = 2 then gi else if k = 1 then gw else if k = 0 then 32762617960297063 else 0 := by
  obtain ⟨n, rfl⟩ := Int.eq_ofNat_of_zero_le hk.1
  have hl := fmtW_len gw gi gb
  have h := fmt_get hm (k := n) hk.2
  rw [vget_nil (by omega), h]
  have e3 : ((n : Int) = 3) ↔ (n = 3) := by omega
  have e2 : ((n : Int) = 2) ↔ (n = 2) := by omega
  have e1 : ((n : Int) = 1) ↔ (n = 1) := by omega
  have e0 : ((n : Int) = 0) ↔ (n = 0) := by omega
  simp only [e3, e2, e1, e0]
theorem fmt_ibits {gw gi gb : Int} (hm : May gw gi gb) {i : Nat} (hi : i < 64) : mbits (fmtW gw gi gb) [] (264 + 208 * gw) i = decide (i < 2) := by
  have hm_ := may_out hm
  have hw := words_may hm
  unfold mbits
  rw [show i / 64 = 0 by omega, show i % 64 = i by omega, fmt_vget hm (by omega), if_neg (by omega), if_neg (by omega), if_neg (by omega), if_pos (by omega)]
  have h : ∀ j : Fin 64, bitI 3 j.val = decide (j.val < 2) := by decide +kernel
  exact h ⟨i, hi⟩
theorem fmt_bbits {gw gi gb : Int} (hm : May gw gi gb) {i : Nat} (hi : i < 512) : mbits (fmtW gw gi gb) [] (272 + 208 * gw) i = decide (i = 0) := by
  have hm_ := may_out hm
  have hw := words_may hm
  unfold mbits
  by_cases h0 : i / 64 = 0
  · rw [h0, show i % 64 = i by omega, fmt_vget hm (by omega), if_neg (by omega), if_neg (by omega), if_pos (by omega)]
    have h : ∀ j : Fin 64, bitI 1 j.val = decide (j.val = 0) := by decide +kernel
    exact h ⟨i, by omega⟩
  · rw [fmt_vget hm (by omega), if_neg (by omega), if_neg (by omega), if_neg (by omega), if_neg (by omega), if_neg (by omega), if_neg (by omega), if_neg (by omega), if_neg (by omega), bitI_zero, decide_eq_false (by omega)]
theorem cnt_dec (m : Nat) : ∀ n, cnt (fun i => decide (i < m)) n = min m n
  | 0 => by simp [cnt]
  | n + 1 => by
    rw [cnt, cnt_dec m n]
    by_cases h : n < m
    · rw [if_pos (by simpa using h)]; omega
    · rw [if_neg (by simpa using h)]; omega
end Go.Proofs.YtmmclabkkigiaaaGreatDoor

namespace Go.Proofs.YtmmclabkkigiaaaGreatDoor
open Go Go.RowKit
set_option linter.unusedVariables false

theorem mbits_flat {img : List Int} {l : List (Int × Int)} (hok : VOk img l) (at_ : Int) : mbits (vflat img l) [] at_ = mbits img l at_ := by
  funext j
  unfold mbits
  rw [vget_flat hok]
theorem clear_ok {img : List Int} : ∀ {ns : List Int} {l : List (Int × Int)}, VOk img l → VR img l → (∀ n ∈ ns, 0 ≤ n ∧ n < (img.length : Int)) → l.length + ns.length ≤ 96 →
    ∃ l', clearF img l ns = (0, l') ∧ VOk img l' ∧ VR img l' ∧ l'.length ≤ l.length + ns.length ∧ ∀ k, vget img l' k = if k ∈ ns then 0 else vget img l k
  | [], l, hok, hv, _, _ => ⟨l, rfl, hok, hv, by simp, fun k => by simp⟩
  | n :: ns, l, hok, hv, hr, hl => by
    simp only [List.length_cons] at hl
    have hn := hr n (by simp)
    have hlen := vput_len img l n 0
    unfold clearF
    rw [vput_in hn (by omega)] at hlen ⊢
    simp only at hlen ⊢
    obtain ⟨l', h1, h2, h3, h4, h5⟩ := clear_ok (ns := ns) (l := vset l n 0) (hok.put hn (.inr (by omega))) (hv.put hn u64_zero) (fun m hm => hr m (by simp [hm])) (by omega)
    refine ⟨l', by rw [if_pos trivial]; exact h1, h2, h3, by simp only [List.length_cons]; omega, fun k => ?_⟩
    rw [h5, vget_vset hn]
    by_cases e : k = n
    · subst e; simp
    · simp [e]
theorem mem_own {p k : Int} : k ∈ ownL p ↔ p ≤ k ∧ k < p + 8 := by
  unfold ownL
  simp only [List.mem_cons, List.not_mem_nil, or_false]
  omega

structure Gd (gi gb : Int) (ws : List Int) (fi fb : Nat → Bool) : Prop where
  may : May 1 gi gb
  len : (ws.length : Int) = wordsOf 1 gi gb
  u64 : ∀ x ∈ ws, U64 x
  ib : ∀ j, j < gi.toNat → mbits ws [] 472 j = fi j
  bb : ∀ j, j < gb.toNat → mbits ws [] 480 j = fb j
section
variable {gi gb : Int} {ws : List Int} {fi fb : Nat → Bool}
theorem Gd.ok (h : Gd gi gb ws fi fb) : VOk ws [] ∧ VR ws [] ∧ (ws.length : Int) = 488 + 16 * gi + 8 * gb ∧ ws.length ≤ 6232 := by
  have hm_ := may_out h.may
  have hw := words_may h.may
  have hl := h.len
  exact ⟨VOk.nil (by omega), VR.nil h.u64, by omega, by omega⟩
theorem Gd.fmt (hm : May 1 gi gb) : Gd gi gb (fmtW 1 gi gb) (fun j => decide (j < 2)) (fun j => decide (j = 0)) := by
  have hm_ := may_out hm
  have hl := fmtW_len 1 gi gb
  have hw := words_may hm
  exact ⟨hm, by omega, fmtW_u64, fun j hj => fmt_ibits hm (by omega), fun j hj => fmt_bbits hm (by omega)⟩
theorem Gd.flat (h : Gd gi gb ws fi fb) {l : List (Int × Int)} (hok : VOk ws l) (hv : VR ws l) {fi' fb' : Nat → Bool} (h1 : ∀ j, j < gi.toNat → mbits ws l 472 j = fi' j) (h2 : ∀ j, j < gb.toNat → mbits ws l 480 j = fb' j) : Gd gi gb (vflat ws l) fi' fb' :=
  ⟨h.may, by rw [vflat_length]; exact h.len, u64_flat hok hv, fun j hj => by rw [mbits_flat hok]; exact h1 j hj, fun j hj => by rw [mbits_flat hok]; exact h2 j hj⟩
theorem Gd.lstB (h : Gd gi gb ws fi fb) : lst (mbits ws [] 480) gb.toNat = lst fb gb.toNat := by
  rcases lst_cases fb gb.toNat with ⟨i, h1, h2, h3, h4⟩ | ⟨h1, h4⟩
  · rw [h4, lst_at h1 ((h.bb i h1).trans h2) (fun j hj => (h.bb j (by omega)).trans (h3 j hj))]
  · rw [h4, lst_full fun j hj => (h.bb j hj).trans (h1 j hj)]
theorem Gd.setB (h : Gd gi gb ws fi fb) {n : Int} {b : Bool} (hn : 0 ≤ n ∧ n < gb) :
    ∃ l, msetF ws [] 480 gb n b = (0, l) ∧ VOk ws l ∧ VR ws l ∧ l.length ≤ 1 ∧ (∀ k, ¬ (480 ≤ k ∧ k < 488) → vget ws l k = vget ws [] k) ∧ (∀ j, mbits ws l 480 j = if j = n.toNat then b else mbits ws [] 480 j) ∧ (∀ j, j < 64 → mbits ws l 472 j = mbits ws [] 472 j) := by
  obtain ⟨ho, hv, hl, hl2⟩ := h.ok
  have hm_ := may_out h.may
  obtain ⟨l, h1, h2, h3, h4, _, h6, h7⟩ := mset_in (is_ := b) (at_ := 480) (i_ := n) (many := gb) hv ho (by omega) (by omega) (by simp)
  refine ⟨l, h1, h3, h2, by simpa using h4, fun k hk => ?_, h7, fun j hj => ?_⟩
  · rw [h6, if_neg (by omega)]
  · unfold mbits
    rw [h6, if_neg (by omega)]
theorem place9_in {n : Int} (hm : May 1 gi gb) (hn : 0 ≤ n ∧ n < gb) : placeOf 9 1 gi gb n = 488 + 16 * gi + 8 * n := by
  unfold placeOf
  rw [if_pos hm]
  simp only [hn, and_self, if_true]
  omega
theorem Gd.takeB (h : Gd gi gb ws fi fb) :
    (∃ i l, i < gb.toNat ∧ fb i = false ∧ (∀ j, j < i → fb j = true) ∧ takeBF ws [] 1 gi gb 480 = ((i : Int), 0, l) ∧ VOk ws l ∧ VR ws l ∧ l.length ≤ 9 ∧ (∀ k, 488 + 16 * gi + 8 * (i : Int) ≤ k ∧ k < 488 + 16 * gi + 8 * (i : Int) + 8 → vget ws l k = 0) ∧
      (∀ k, ¬ (480 ≤ k ∧ k < 488) → ¬ (488 + 16 * gi + 8 * (i : Int) ≤ k ∧ k < 488 + 16 * gi + 8 * (i : Int) + 8) → vget ws l k = vget ws [] k) ∧ Gd gi gb (vflat ws l) fi (fun j => if j = i then true else fb j)) ∨
    ((∀ j, j < gb.toNat → fb j = true) ∧ takeBF ws [] 1 gi gb 480 = (0, 7, [])) := by
  obtain ⟨ho, hv, hl, hl2⟩ := h.ok
  have hm_ := may_out h.may
  rcases lst_cases fb gb.toNat with ⟨i, h1, h2, h3, h4⟩ | ⟨h1, h4⟩
  · refine .inl ?_
    obtain ⟨l, a1, a2, a3, a4, a5, a6, a7⟩ := h.setB (n := (i : Int)) (b := true) (by omega)
    have hp := place9_in (n := (i : Int)) h.may (by omega)
    obtain ⟨l', c1, c2, c3, c4, c5⟩ := clear_ok (ns := ownL (488 + 16 * gi + 8 * (i : Int))) a2 a3 (fun n hn => by rw [mem_own] at hn; omega) (by rw [show (ownL (488 + 16 * gi + 8 * (i : Int))).length = 8 from rfl]; omega)
    have c5' : ∀ k, vget ws l' k = if 488 + 16 * gi + 8 * (i : Int) ≤ k ∧ k < 488 + 16 * gi + 8 * (i : Int) + 8 then 0 else vget ws l k := fun k => by rw [c5]; simp only [mem_own]
    rw [show (ownL (488 + 16 * gi + 8 * (i : Int))).length = 8 from rfl] at c4
    refine ⟨i, l', h1, h2, h3, ?_, c2, c3, by omega, fun k hk => by rw [c5', if_pos hk], fun k hk1 hk2 => by rw [c5', if_neg hk2, a5 k hk1], ?_⟩
    · unfold takeBF
      rw [h.lstB, h4]
      simp only
      rw [if_pos trivial, a1, if_pos rfl, hp]
      simp only
      rw [c1, if_pos rfl]
    · refine h.flat c2 c3 (fun j hj => ?_) fun j hj => ?_
      · rw [← h.ib j hj, ← a7 j (by omega)]
        unfold mbits
        rw [c5', if_neg (by omega)]
      · rw [← h.bb j hj]
        have e := a6 j
        rw [Int.toNat_natCast] at e
        rw [← e]
        unfold mbits
        rw [c5', if_neg (by omega)]
  · refine .inr ⟨h1, ?_⟩
    unfold takeBF
    rw [h.lstB, h4]
    rfl
theorem Gd.free (h : Gd gi gb ws fi fb) {l : List (Int × Int)} (hok : VOk ws l) {fi' fb' : Nat → Bool} (h' : Gd gi gb (vflat ws l) fi' fb') : freeF ws l gi gb 472 480 = (gi - (cnt fi' gi.toNat : Nat), gb - (cnt fb' gb.toNat : Nat)) := by
  have e1 : cnt (mbits ws l 472) gi.toNat = cnt fi' gi.toNat := cnt_congr fun j hj => by rw [← mbits_flat hok]; exact h'.ib j hj
  have e2 : cnt (mbits ws l 480) gb.toNat = cnt fb' gb.toNat := cnt_congr fun j hj => by rw [← mbits_flat hok]; exact h'.bb j hj
  unfold freeF
  rw [e1, e2]
theorem Gd.congr (h : Gd gi gb ws fi fb) {fi' fb' : Nat → Bool} (h1 : ∀ j, j < gi.toNat → fi j = fi' j) (h2 : ∀ j, j < gb.toNat → fb j = fb' j) : Gd gi gb ws fi' fb' :=
  ⟨h.may, h.len, h.u64, fun j hj => (h.ib j hj).trans (h1 j hj), fun j hj => (h.bb j hj).trans (h2 j hj)⟩
end
end Go.Proofs.YtmmclabkkigiaaaGreatDoor

namespace Go.Proofs.YtmmclabkkigiaaaGreatDoor
open Go Go.RowKit
set_option linter.unusedVariables false
set_option linter.unusedSimpArgs false

structure Dk (gi gb : Int) (img : List Int) (l : List (Int × Int)) : Prop where
  may : May 1 gi gb
  len : (img.length : Int) = 488 + 16 * gi + 8 * gb
  vr : VR img l
  ok : VOk img l
section
variable {gi gb : Int} {img : List Int} {l : List (Int × Int)}
theorem Dk.g (h : Dk gi gb img l) : (2 ≤ gi ∧ gi ≤ 64) ∧ (2 ≤ gb ∧ gb ≤ 512) := (may_out h.may).2
theorem Dk.words (h : Dk gi gb img l) : wordsOf 1 gi gb = (img.length : Int) := by
  have := words_may h.may
  have := h.len
  omega
theorem Dk.write (h : Dk gi gb img l) {a x : Int} (ha : 0 ≤ a ∧ a < (img.length : Int)) (hx : U64 x) (hl : l.length < 96) :
    ∃ m, vwrite img l a x = (0, m) ∧ Dk gi gb img m ∧ m.length ≤ l.length + 1 ∧ ∀ z, vget img m z = if z = a then x else vget img l z := by
  unfold vwrite
  rw [if_neg (by omega)]
  by_cases e : vget img l a = x
  · rw [if_pos e]
    refine ⟨l, rfl, h, by omega, fun z => ?_⟩
    by_cases hz : z = a
    · rw [if_pos hz, hz, e]
    · rw [if_neg hz]
  · rw [if_neg e, vput_in ha hl]
    have hlen := vput_len img l a x
    rw [vput_in ha hl] at hlen
    exact ⟨_, rfl, ⟨h.may, h.len, h.vr.put ha hx, h.ok.put ha (.inr hl)⟩, hlen, fun z => vget_vset ha⟩
theorem mbits_congr {img' : List Int} {l' : List (Int × Int)} {at_ : Int} {j : Nat} (h : vget img l (at_ + ((j / 64 : Nat) : Int)) = vget img' l' (at_ + ((j / 64 : Nat) : Int))) : mbits img l at_ j = mbits img' l' at_ j := by
  unfold mbits
  rw [h]
theorem Dk.take (h : Dk gi gb img l) {i : Nat} (hi : i < gb.toNat) (h1 : 1 ≤ i) (hf : mbits img l 480 i = false) (hlow : ∀ j, j < i → mbits img l 480 j = true) {at_ : Int} (ha : 488 ≤ at_ ∧ at_ < (img.length : Int))
    (hat : ¬ (488 + 16 * gi + 8 * (i : Int) ≤ at_ ∧ at_ < 488 + 16 * gi + 8 * (i : Int) + 8)) (hl : l.length + 10 ≤ 96) :
    ∃ m, btake_M img l 1 gi gb at_ = some ((i : Int), 0, m) ∧ Dk gi gb img m ∧ m.length ≤ l.length + 10 ∧
      (∀ z, ¬ (480 ≤ z ∧ z < 488) → vget img m z = if z = at_ then (i : Int) else if 488 + 16 * gi + 8 * (i : Int) ≤ z ∧ z < 488 + 16 * gi + 8 * (i : Int) + 8 then 0 else vget img l z) ∧
      (∀ j, j < 512 → mbits img m 480 j = if j = i then true else mbits img l 480 j) := by
  have hg := h.g
  have hlen := h.len
  obtain ⟨l1, a1, a2, a3, a4, _, a6, a7⟩ := mset_in (is_ := true) (at_ := 480) (i_ := (i : Int)) (many := gb) h.vr h.ok (by omega) (by omega) (by omega)
  have hp := place9_in (n := (i : Int)) h.may (by omega)
  obtain ⟨l2, c1, c2, c3, c4, c5⟩ := clear_ok (ns := ownL (488 + 16 * gi + 8 * (i : Int))) a3 a2 (fun n hn => by rw [mem_own] at hn; omega) (by rw [show (ownL (488 + 16 * gi + 8 * (i : Int))).length = 8 from rfl]; omega)
  rw [show (ownL (488 + 16 * gi + 8 * (i : Int))).length = 8 from rfl] at c4
  have hd2 : Dk gi gb img l2 := ⟨h.may, h.len, c3, c2⟩
  obtain ⟨m, d1, d2, d3, d4⟩ := hd2.write (a := at_) (x := (i : Int)) (by omega) (by unfold U64; omega) (by omega)
  have hT : takeBF img l 1 gi gb 480 = ((i : Int), 0, l2) := by
    unfold takeBF
    rw [lst_at hi hf hlow]
    simp only
    rw [if_pos trivial, a1, if_pos rfl, hp]
    simp only
    rw [c1, if_pos rfl]
  refine ⟨m, ?_, d2, by omega, fun z hz => ?_, fun j hj => ?_⟩
  · unfold btake_M
    have hw := h.words
    have hI : ¬ ((i : Int) = 0) := by omega
    refine need_of (by omega) ?_
    rw [if_pos ⟨h.may, by omega⟩, place7 h.may]
    simp only [Int.reduceMul, Int.reduceAdd]
    rw [atakeb_ok h.vr (by omega) (by omega), hT]
    simp only [Option.bind, if_true, if_neg hI]
    unfold btake_J1
    rw [if_pos rfl]
    refine need_of (by omega) ?_
    simp only [Option.bind, d1]
    unfold btake_J2
    rw [if_pos rfl]
  · rw [d4, c5]
    by_cases e : z = at_
    · rw [if_pos e, if_pos e]
    · rw [if_neg e, if_neg e]
      simp only [mem_own]
      split
      · rfl
      · rw [a6, if_neg (by omega)]
  · have e1 := a7 j
    rw [Int.toNat_natCast] at e1
    rw [← e1]
    refine mbits_congr ?_
    rw [d4, if_neg (by omega), c5]
    simp only [mem_own]
    rw [if_neg (by omega)]
theorem Dk.give (h : Dk gi gb img l) {b : Int} (hb : 1 ≤ b ∧ b < gb) (hu : mbits img l 480 b.toNat = true) {at_ : Int} (ha : 488 ≤ at_ ∧ at_ < (img.length : Int)) (hl : l.length + 2 ≤ 96) :
    ∃ m, bgive_M img l 1 gi gb at_ b = some (0, m) ∧ Dk gi gb img m ∧ m.length ≤ l.length + 2 ∧ (∀ z, ¬ (480 ≤ z ∧ z < 488) → vget img m z = if z = at_ then 0 else vget img l z) ∧
      (∀ j, j < 512 → mbits img m 480 j = if j = b.toNat then false else mbits img l 480 j) := by
  have hg := h.g
  have hlen := h.len
  obtain ⟨l1, a1, a2, a3, a4, _, a6, a7⟩ := mset_in (is_ := false) (at_ := 480) (i_ := b) (many := gb) h.vr h.ok (by omega) (by omega) (by omega)
  have hd1 : Dk gi gb img l1 := ⟨h.may, h.len, a2, a3⟩
  obtain ⟨m, d1, d2, d3, d4⟩ := hd1.write (a := at_) (x := 0) (by omega) u64_zero (by omega)
  refine ⟨m, ?_, d2, by omega, fun z hz => ?_, fun j hj => ?_⟩
  · unfold bgive_M
    have hw := h.words
    refine need_of (by omega) ?_
    rw [if_pos ⟨h.may, by omega⟩, place7 h.may]
    simp only [Int.reduceMul, Int.reduceAdd]
    have hG : giveF img l 480 gb b = (0, l1) := by
      unfold giveF
      rw [if_pos hb, if_pos hu, a1]
    have hA : agiveb_M img l gb 480 b = some (0, l1) := by
      unfold agiveb_M
      exact bind_of ((agive_ok h.vr (by omega) (by omega)).trans (congrArg some hG)) rfl
    rw [hA]
    simp only [Option.bind, if_true, d1]
  · rw [d4]
    by_cases e : z = at_
    · rw [if_pos e, if_pos e]
    · rw [if_neg e, if_neg e, a6, if_neg (by omega)]
  · rw [← a7 j]
    refine mbits_congr ?_
    rw [d4, if_neg (by omega)]
end

structure Hd where
  k : Int
  l : Int
  o : Int
  s : Int
  m : Int
def HdOk (gi : Int) (h : Hd) : Prop := h.m < gi ∧ (h.l ≤ 65536 ∧ h.o ≤ 16 ∧ h.s ≤ 768) ∧ ((h.k = 1 ∧ h.m = 0) ∨ (h.k = 2 ∧ h.s = 0))
structure Mp (gi gb : Int) (img : List Int) (l : List (Int × Int)) (n : Int) (O : Nat → Prop) (h : Hd) (f : Nat → Int) (c : Int) : Prop where
  dk : Dk gi gb img l
  nr : 0 < n ∧ n < gi
  hd : HdOk gi h
  w0 : vget img l (488 + 16 * n) = h.k
  w1 : vget img l (489 + 16 * n) = h.l
  w2 : vget img l (490 + 16 * n) = h.o
  w3 : vget img l (491 + 16 * n) = h.s
  w9 : vget img l (497 + 16 * n) = h.m
  wd : ∀ k : Nat, k < 4 → vget img l (492 + 16 * n + (k : Int)) = f k
  w8 : vget img l (496 + 16 * n) = c
  we : ∀ k : Nat, 4 ≤ k → k < 12 → f k = if c = 0 then 0 else vget img l (484 + 16 * gi + 8 * c + (k : Int))
  rf : ∀ k, k < 12 → 0 ≤ f k ∧ f k < gb
  rc : 0 ≤ c ∧ c < gb
  inj : ∀ j k, j < 12 → k < 12 → f j ≠ 0 → f j = f k → j = k
  fc : ∀ k, k < 12 → c ≠ 0 → f k ≠ c
  bits : ∀ b : Nat, b < 512 → (mbits img l 480 b = true ↔ b = 0 ∨ (∃ k, k < 12 ∧ f k = (b : Int)) ∨ c = (b : Int) ∨ O b)
  od : ∀ b : Nat, O b → 0 < b ∧ (b : Int) < gb ∧ (∀ k, k < 12 → f k ≠ (b : Int)) ∧ c ≠ (b : Int)
section
variable {gi gb : Int} {img : List Int} {l : List (Int × Int)} {n : Int} {O : Nat → Prop} {hd : Hd} {f : Nat → Int} {c : Int}
theorem Mp.iget (h : Mp gi gb img l n O hd f c) : igetM img l 1 gi gb n = (⟨hd.k, hd.l, hd.o, hd.s, f 0, f 1, f 2, f 3, c, hd.m⟩, 0) := by
  have hg := h.dk.g
  have hlen := h.dk.len
  have hw := h.dk.words
  have hnr := h.nr
  have hp := place8_in (n := n) h.dk.may (by omega)
  have e : ifind (img.length : Int) 1 gi gb n = (488 + 16 * n, 0) := by
    unfold ifind
    rw [hp, if_neg (by omega), if_neg (by omega)]
    congr 1
  have hnd : ndAt img l (488 + 16 * n) = ⟨hd.k, hd.l, hd.o, hd.s, f 0, f 1, f 2, f 3, c, hd.m⟩ := by
    unfold ndAt
    have d0 := h.wd 0 (by omega)
    have d1 := h.wd 1 (by omega)
    have d2 := h.wd 2 (by omega)
    have d3 := h.wd 3 (by omega)
    rw [← h.w0, ← h.w1, ← h.w2, ← h.w3, ← h.w9, ← h.w8, ← d0, ← d1, ← d2, ← d3]
    congr 2 <;> omega
  have hR : RightP 1 gi gb ⟨hd.k, hd.l, hd.o, hd.s, f 0, f 1, f 2, f 3, c, hd.m⟩ := by
    have := h.hd
    unfold HdOk at this
    exact ⟨h.dk.may, ⟨(h.rf 0 (by omega)).2, (h.rf 1 (by omega)).2, (h.rf 2 (by omega)).2, (h.rf 3 (by omega)).2, h.rc.2, this.1⟩, this.2.1, this.2.2⟩
  unfold igetM
  rw [e]
  simp only [if_true, hnd]
  rw [if_pos hR]
theorem Mp.own (h : Mp gi gb img l n O hd f c) {w : Int} (hw : 0 ≤ w ∧ w ≤ 100) : bown_M 1 gi gb n w = some (488 + 16 * n + w) := by
  have hnr := h.nr
  have hg := h.dk.g
  have hp := place8_in (n := n) h.dk.may (by omega)
  unfold bown_M
  rw [hp]
  simp only [Option.bind]
  exact need_of (by omega) (by congr 1)
theorem Mp.chain (h : Mp gi gb img l n O hd f c) : bchain_M img l 1 gi gb n = some c := by
  have hg := h.dk.g
  have hrc := h.rc
  unfold bchain_M
  rw [h.own (by omega)]
  simp only [Option.bind]
  rw [show 488 + 16 * n + 8 = 496 + 16 * n by omega, h.w8]
  exact need_of (by omega) rfl
def wordAt (gi : Int) (n c : Int) (k : Nat) : Int := if k < 4 then 492 + 16 * n + (k : Int) else 484 + 16 * gi + 8 * c + (k : Int)
theorem Mp.word (h : Mp gi gb img l n O hd f c) {k : Nat} (hk : k < 12) : bword_M img l 1 gi gb n (k : Int) = some (wordAt gi n c k, if k < 4 then true else !decide (c = 0)) := by
  have hg := h.dk.g
  have hrc := h.rc
  have hnr := h.nr
  unfold bword_M wordAt
  by_cases h4 : k < 4
  · rw [if_neg (by omega), if_pos h4, if_pos h4]
    unfold bdirect_M
    refine bind_of (y := (492 + 16 * n + (k : Int), true)) (need_of (by omega) ?_) rfl
    rw [h.own (by omega)]
    simp only [Option.bind]
    congr 2
    omega
  · rw [if_pos (by omega), if_neg h4, if_neg h4]
    unfold bchained_M
    rw [h.chain]
    have hp := place9_in (n := c) h.dk.may (by omega)
    simp only [Option.bind, hp]
    refine bind_of (y := (484 + 16 * gi + 8 * c + (k : Int), !decide (c = 0))) (need_of (by omega) (need_of (by omega) ?_)) rfl
    congr 2
    omega
theorem Mp.wordIn (h : Mp gi gb img l n O hd f c) {k : Nat} (hk : k < 12) : 488 ≤ wordAt gi n c k ∧ wordAt gi n c k < (img.length : Int) := by
  have hg := h.dk.g
  have hrc := h.rc
  have hnr := h.nr
  have hlen := h.dk.len
  unfold wordAt
  split <;> omega
theorem Mp.wordGet (h : Mp gi gb img l n O hd f c) {k : Nat} (hk : k < 12) (hc : k < 4 ∨ c ≠ 0) : vget img l (wordAt gi n c k) = f k := by
  unfold wordAt
  by_cases h4 : k < 4
  · rw [if_pos h4]
    exact h.wd k h4
  · rw [if_neg h4, h.we k (by omega) hk, if_neg (by omega)]
theorem Mp.at (h : Mp gi gb img l n O hd f c) {k : Nat} (hk : k < 12) : bat_M img l 1 gi gb n (k : Int) = some (f k, 0) := by
  have hg := h.dk.g
  have hrf := h.rf k hk
  have J : bat_J1 img l 1 gi gb n (k : Int) = some (f k, 0) := by
    unfold bat_J1
    rw [h.iget]
    simp only [Option.bind]
    unfold bat_J2
    rw [if_pos rfl, h.word hk]
    simp only [Option.bind]
    by_cases hc : k < 4 ∨ c ≠ 0
    · have ht : (if k < 4 then true else !decide (c = 0)) = true := by
        rcases hc with hc | hc
        · rw [if_pos hc]
        · split
          · rfl
          · simp [hc]
      rw [ht, h.wordGet hk hc, if_pos rfl]
      exact need_of (by omega) (by rw [if_neg (by omega)]; exact need_of (by omega) rfl)
    · have hc0 : c = 0 := by omega
      rw [if_neg (show ¬ k < 4 by omega), hc0]
      have := h.we k (by omega) hk
      rw [if_pos hc0] at this
      rw [this]
      rfl
  unfold bat_M
  rw [if_neg (by omega), if_neg (by omega), J]
def needF (f : Nat → Int) (c : Int) (k : Nat) : Int := if f k = 0 then (if k < 4 ∨ c ≠ 0 then 1 else 2) else 0
theorem Mp.need (h : Mp gi gb img l n O hd f c) {k : Nat} (hk : k < 12) : bneed_M img l 1 gi gb n (k : Int) = some (needF f c k) := by
  unfold bneed_M needF
  rw [h.at hk]
  simp only [Option.bind, if_true]
  by_cases h0 : f k = 0
  · rw [if_pos h0, if_pos h0, h.word hk]
    simp only
    by_cases h4 : k < 4
    · rw [if_pos h4, if_pos rfl, if_pos (Or.inl h4)]
    · rw [if_neg h4]
      by_cases hc : c = 0
      · rw [hc, if_neg (by simp), if_neg (by simp; omega)]
      · rw [if_pos (by simp [hc]), if_pos (Or.inr hc)]
  · rw [if_neg h0, if_neg h0]
end

def upd (f : Nat → Int) (k : Nat) (x : Int) : Nat → Int := fun j => if j = k then x else f j
theorem upd_at (f : Nat → Int) (k : Nat) (x : Int) : upd f k x k = x := if_pos rfl
theorem upd_ne {f : Nat → Int} {k j : Nat} {x : Int} (h : j ≠ k) : upd f k x j = f j := if_neg h
section
variable {gi gb : Int} {img : List Int} {l : List (Int × Int)} {n : Int} {O : Nat → Prop} {hd : Hd} {f : Nat → Int} {c : Int}
theorem Mp.hasWord (h : Mp gi gb img l n O hd f c) {k : Nat} (hk : k < 12) (h0 : f k ≠ 0) : k < 4 ∨ c ≠ 0 := by
  rcases Nat.lt_or_ge k 4 with h4 | h4
  · exact .inl h4
  · refine .inr fun hc => h0 ?_
    rw [h.we k h4 hk, if_pos hc]
theorem Mp.used (h : Mp gi gb img l n O hd f c) {k : Nat} (hk : k < 12) (h0 : f k ≠ 0) : mbits img l 480 (f k).toNat = true := by
  have hr := h.rf k hk
  have hg := h.dk.g
  exact (h.bits _ (by omega)).2 (.inr (.inl ⟨k, hk, by omega⟩))
theorem Mp.turn (h : Mp gi gb img l n O hd f c) {m : List (Int × Int)} {k : Nat} (hk : k < 12) (hc : k < 4 ∨ c ≠ 0) {x : Int} (hx : 0 ≤ x ∧ x < gb) (hdk : Dk gi gb img m)
    (hw : ∀ z, ¬ (480 ≤ z ∧ z < 488) → (z < 488 + 16 * gi ∨ (c ≠ 0 ∧ 488 + 16 * gi + 8 * c ≤ z ∧ z < 488 + 16 * gi + 8 * c + 8)) → vget img m z = if z = wordAt gi n c k then x else vget img l z)
    (hinj : ∀ j, j < 12 → j ≠ k → x ≠ 0 → f j ≠ x) (hxc : x ≠ 0 → c ≠ x) (hbits : ∀ b : Nat, b < 512 → (mbits img m 480 b = true ↔ b = 0 ∨ (∃ j, j < 12 ∧ upd f k x j = (b : Int)) ∨ c = (b : Int) ∨ O b)) (hox : ∀ b : Nat, O b → x ≠ (b : Int)) :
    Mp gi gb img m n O hd (upd f k x) c := by
  have hg := h.dk.g
  have hnr := h.nr
  have hrc := h.rc
  have hwa : wordAt gi n c k = if k < 4 then 492 + 16 * n + (k : Int) else 484 + 16 * gi + 8 * c + (k : Int) := rfl
  have hne : ∀ z, (488 + 16 * n ≤ z ∧ z < 492 + 16 * n) ∨ z = 496 + 16 * n ∨ z = 497 + 16 * n → vget img m z = vget img l z := by
    intro z hz
    rw [hw z (by omega) (.inl (by omega)), if_neg]
    rw [hwa]
    by_cases hk4 : k < 4
    · rw [if_pos hk4]; omega
    · rw [if_neg hk4]; omega
  refine ⟨hdk, hnr, h.hd, ?_, ?_, ?_, ?_, ?_, fun j hj => ?_, ?_, fun j hj1 hj2 => ?_, fun j hj => ?_, hrc, fun i j hi hj h1 h2 => ?_, fun j hj hc0 => ?_, hbits, fun b hb => ?_⟩
  · rw [hne _ (by omega)]; exact h.w0
  · rw [hne _ (by omega)]; exact h.w1
  · rw [hne _ (by omega)]; exact h.w2
  · rw [hne _ (by omega)]; exact h.w3
  · rw [hne _ (by omega)]; exact h.w9
  · rw [hw _ (by omega) (.inl (by omega)), hwa]
    by_cases e : j = k
    · subst e
      rw [upd_at, if_pos hj, if_pos rfl]
    · rw [upd_ne e]
      by_cases hk4 : k < 4
      · rw [if_pos hk4, if_neg (by omega)]
        exact h.wd j hj
      · rw [if_neg hk4, if_neg (by omega)]
        exact h.wd j hj
  · rw [hne _ (by omega)]; exact h.w8
  · by_cases hc0 : c = 0
    · rw [if_pos hc0]
      have hk4 : k < 4 := by omega
      rw [upd_ne (by omega), h.we j hj1 hj2, if_pos hc0]
    · rw [if_neg hc0, hw _ (by omega) (.inr ⟨hc0, by omega⟩), hwa]
      by_cases e : j = k
      · subst e
        rw [upd_at, if_neg (show ¬ j < 4 by omega), if_pos rfl]
      · rw [upd_ne e, h.we j hj1 hj2, if_neg hc0]
        by_cases hk4 : k < 4
        · rw [if_pos hk4, if_neg (by omega)]
        · rw [if_neg hk4, if_neg (by omega)]
  · unfold upd
    split
    · exact hx
    · exact h.rf j hj
  · unfold upd at h1 h2
    by_cases e1 : i = k
    · by_cases e2 : j = k
      · omega
      · rw [if_pos e1] at h1 h2
        rw [if_neg e2] at h2
        exact absurd h2.symm (hinj j hj e2 h1)
    · rw [if_neg e1] at h1 h2
      by_cases e2 : j = k
      · rw [if_pos e2] at h2
        rw [h2] at h1
        exact absurd h2 (hinj i hi e1 h1)
      · rw [if_neg e2] at h2
        exact h.inj i j hi hj h1 h2
  · unfold upd
    split
    · intro e
      exact hxc (by omega) e.symm
    · exact h.fc j hj hc0
  · obtain ⟨o1, o2, o3, o4⟩ := h.od b hb
    refine ⟨o1, o2, fun j hj => ?_, o4⟩
    unfold upd
    split
    · exact hox b hb
    · exact o3 j hj
theorem Mp.giveW (h : Mp gi gb img l n O hd f c) {k : Nat} (hk : k < 12) (h0 : f k ≠ 0) (hl : l.length + 2 ≤ 96) :
    ∃ m, bgive_M img l 1 gi gb (wordAt gi n c k) (f k) = some (0, m) ∧ m.length ≤ l.length + 2 ∧ Mp gi gb img m n O hd (upd f k 0) c ∧ ∀ z, ¬ (480 ≤ z ∧ z < 488) → z ≠ wordAt gi n c k → vget img m z = vget img l z := by
  have hg := h.dk.g
  have hr := h.rf k hk
  obtain ⟨m, g1, g2, g3, g4, g5⟩ := h.dk.give (b := f k) (by omega) (h.used hk h0) (h.wordIn hk) hl
  refine ⟨m, g1, g3, h.turn hk (h.hasWord hk h0) (x := 0) (by omega) g2 (fun z hz _ => g4 z hz) (by omega) (by omega) (fun b hb => ?_) (fun b hb => by have := h.od b hb; omega), fun z hz hz2 => by rw [g4 z hz, if_neg hz2]⟩
  rw [g5 b hb]
  by_cases e : b = (f k).toNat
  · rw [if_pos e]
    refine ⟨fun q => absurd q (by decide), fun q => ?_⟩
    exfalso
    rcases q with q | ⟨j, hj, q⟩ | q | q
    · omega
    · unfold upd at q
      by_cases ej : j = k
      · rw [if_pos ej] at q; omega
      · rw [if_neg ej] at q
        exact ej (h.inj j k hj hk (by omega) (by omega))
    · exact h.fc k hk (by omega) (by omega)
    · exact (h.od b q).2.2.1 k hk (by omega)
  · rw [if_neg e, h.bits b hb]
    constructor
    · rintro (q | ⟨j, hj, q⟩ | q | q)
      · exact .inl q
      · by_cases ej : j = k
        · subst ej; omega
        · exact .inr (.inl ⟨j, hj, by rw [upd_ne ej]; exact q⟩)
      · exact .inr (.inr (.inl q))
      · exact .inr (.inr (.inr q))
    · rintro (q | ⟨j, hj, q⟩ | q | q)
      · exact .inl q
      · by_cases ej : j = k
        · subst ej; rw [upd_at] at q; exact .inl (by omega)
        · rw [upd_ne ej] at q; exact .inr (.inl ⟨j, hj, q⟩)
      · exact .inr (.inr (.inl q))
      · exact .inr (.inr (.inr q))
theorem Mp.giveC (h : Mp gi gb img l n O hd f c) (hc : c ≠ 0) (hz : ∀ k, 4 ≤ k → k < 12 → f k = 0) (hl : l.length + 2 ≤ 96) :
    ∃ m, bgive_M img l 1 gi gb (496 + 16 * n) c = some (0, m) ∧ m.length ≤ l.length + 2 ∧ Mp gi gb img m n O hd f 0 ∧ ∀ z, ¬ (480 ≤ z ∧ z < 488) → z ≠ 496 + 16 * n → vget img m z = vget img l z := by
  have hg := h.dk.g
  have hrc := h.rc
  have hnr := h.nr
  have hlen := h.dk.len
  obtain ⟨m, g1, g2, g3, g4, g5⟩ := h.dk.give (b := c) (by omega) ((h.bits _ (by omega)).2 (.inr (.inr (.inl (by omega))))) (at_ := 496 + 16 * n) (by omega) hl
  have hne : ∀ z, ¬ (480 ≤ z ∧ z < 488) → z ≠ 496 + 16 * n → vget img m z = vget img l z := fun z h1 h2 => by rw [g4 z h1, if_neg h2]
  refine ⟨m, g1, g3, ⟨g2, hnr, h.hd, ?_, ?_, ?_, ?_, ?_, fun j hj => ?_, ?_, fun j hj1 hj2 => ?_, h.rf, by omega, h.inj, fun j hj q => absurd rfl q, fun b hb => ?_, fun b hb => ?_⟩, hne⟩
  · rw [hne _ (by omega) (by omega)]; exact h.w0
  · rw [hne _ (by omega) (by omega)]; exact h.w1
  · rw [hne _ (by omega) (by omega)]; exact h.w2
  · rw [hne _ (by omega) (by omega)]; exact h.w3
  · rw [hne _ (by omega) (by omega)]; exact h.w9
  · rw [hne _ (by omega) (by omega)]; exact h.wd j hj
  · rw [g4 _ (by omega), if_pos rfl]
  · rw [if_pos rfl]; exact hz j hj1 hj2
  · rw [g5 b hb]
    by_cases e : b = c.toNat
    · rw [if_pos e]
      refine ⟨fun q => absurd q (by decide), fun q => ?_⟩
      exfalso
      rcases q with q | ⟨j, hj, q⟩ | q | q
      · omega
      · exact h.fc j hj hc (by omega)
      · omega
      · exact (h.od b q).2.2.2 (by omega)
    · rw [if_neg e, h.bits b hb]
      constructor
      · rintro (q | q | q | q)
        · exact .inl q
        · exact .inr (.inl q)
        · omega
        · exact .inr (.inr (.inr q))
      · rintro (q | q | q | q)
        · exact .inl q
        · exact .inr (.inl q)
        · exact .inl (by omega)
        · exact .inr (.inr (.inr q))
  · obtain ⟨o1, o2, o3, o4⟩ := h.od b hb
    exact ⟨o1, o2, o3, by omega⟩
theorem Mp.takeW (h : Mp gi gb img l n O hd f c) {k : Nat} (hk : k < 12) (hc : k < 4 ∨ c ≠ 0) (h0 : f k = 0) {i : Nat} (hi : i < gb.toNat) (hf : mbits img l 480 i = false) (hlow : ∀ j, j < i → mbits img l 480 j = true) (hl : l.length + 10 ≤ 96) :
    ∃ m, btake_M img l 1 gi gb (wordAt gi n c k) = some ((i : Int), 0, m) ∧ m.length ≤ l.length + 10 ∧ 1 ≤ i ∧ Mp gi gb img m n O hd (upd f k (i : Int)) c ∧ (∀ z, ¬ (480 ≤ z ∧ z < 488) → vget img m z = if z = wordAt gi n c k then (i : Int) else if 488 + 16 * gi + 8 * (i : Int) ≤ z ∧ z < 488 + 16 * gi + 8 * (i : Int) + 8 then 0 else vget img l z) ∧
      (∀ j, j < 512 → mbits img m 480 j = if j = i then true else mbits img l 480 j) := by
  have hg := h.dk.g
  have hnr := h.nr
  have hrc := h.rc
  have nb : ¬ (mbits img l 480 i = true) := by rw [hf]; decide
  rw [h.bits i (by omega)] at nb
  have h1 : 1 ≤ i := by
    rcases Nat.eq_zero_or_pos i with e | e
    · exact absurd (.inl e) nb
    · exact e
  have hci : c ≠ (i : Int) := fun e => nb (.inr (.inr (.inl e)))
  have hfi : ∀ j, j < 12 → f j ≠ (i : Int) := fun j hj e => nb (.inr (.inl ⟨j, hj, e⟩))
  have hoi : ¬ O i := fun e => nb (.inr (.inr (.inr e)))
  have hat : ¬ (488 + 16 * gi + 8 * (i : Int) ≤ wordAt gi n c k ∧ wordAt gi n c k < 488 + 16 * gi + 8 * (i : Int) + 8) := by
    unfold wordAt
    split <;> omega
  obtain ⟨m, g1, g2, g3, g4, g5⟩ := h.dk.take hi h1 hf hlow (h.wordIn hk) hat hl
  refine ⟨m, g1, g3, h1, h.turn hk hc (x := (i : Int)) (by omega) g2 (fun z hz hz2 => ?_) (fun j hj _ _ => hfi j hj) (fun _ => hci) (fun b hb => ?_) (fun b hb e => hoi (by rw [show i = b by omega]; exact hb)), g4, g5⟩
  · rw [g4 z hz]
    by_cases e : z = wordAt gi n c k
    · rw [if_pos e, if_pos e]
    · rw [if_neg e, if_neg e, if_neg (by omega)]
  · rw [g5 b hb]
    by_cases e : b = i
    · rw [if_pos e]
      exact ⟨fun _ => .inr (.inl ⟨k, hk, by rw [upd_at]; omega⟩), fun _ => rfl⟩
    · rw [if_neg e, h.bits b hb]
      constructor
      · rintro (q | ⟨j, hj, q⟩ | q | q)
        · exact .inl q
        · by_cases ej : j = k
          · subst ej; exact .inl (by omega)
          · exact .inr (.inl ⟨j, hj, by rw [upd_ne ej]; exact q⟩)
        · exact .inr (.inr (.inl q))
        · exact .inr (.inr (.inr q))
      · rintro (q | ⟨j, hj, q⟩ | q | q)
        · exact .inl q
        · by_cases ej : j = k
          · subst ej; rw [upd_at] at q; omega
          · rw [upd_ne ej] at q; exact .inr (.inl ⟨j, hj, q⟩)
        · exact .inr (.inr (.inl q))
        · exact .inr (.inr (.inr q))
theorem Mp.takeC (h : Mp gi gb img l n O hd f 0) {i : Nat} (hi : i < gb.toNat) (hf : mbits img l 480 i = false) (hlow : ∀ j, j < i → mbits img l 480 j = true) (hl : l.length + 10 ≤ 96) :
    ∃ m, btake_M img l 1 gi gb (496 + 16 * n) = some ((i : Int), 0, m) ∧ m.length ≤ l.length + 10 ∧ 1 ≤ i ∧ Mp gi gb img m n O hd f (i : Int) ∧ (∀ z, ¬ (480 ≤ z ∧ z < 488) → vget img m z = if z = 496 + 16 * n then (i : Int) else if 488 + 16 * gi + 8 * (i : Int) ≤ z ∧ z < 488 + 16 * gi + 8 * (i : Int) + 8 then 0 else vget img l z) ∧
      (∀ j, j < 512 → mbits img m 480 j = if j = i then true else mbits img l 480 j) := by
  have hg := h.dk.g
  have hnr := h.nr
  have hlen := h.dk.len
  have nb : ¬ (mbits img l 480 i = true) := by rw [hf]; decide
  rw [h.bits i (by omega)] at nb
  have h1 : 1 ≤ i := by
    rcases Nat.eq_zero_or_pos i with e | e
    · exact absurd (.inl e) nb
    · exact e
  have hfi : ∀ j, j < 12 → f j ≠ (i : Int) := fun j hj e => nb (.inr (.inl ⟨j, hj, e⟩))
  have hoi : ¬ O i := fun e => nb (.inr (.inr (.inr e)))
  obtain ⟨m, g1, g2, g3, g4, g5⟩ := h.dk.take hi h1 hf hlow (at_ := 496 + 16 * n) (by omega) (by omega) hl
  have hne : ∀ z, ¬ (480 ≤ z ∧ z < 488) → z < 488 + 16 * gi → z ≠ 496 + 16 * n → vget img m z = vget img l z := fun z a1 a2 a3 => by rw [g4 z a1, if_neg a3, if_neg (by omega)]
  refine ⟨m, g1, g3, h1, ⟨g2, hnr, h.hd, ?_, ?_, ?_, ?_, ?_, fun j hj => ?_, ?_, fun j hj1 hj2 => ?_, h.rf, by omega, h.inj, fun j hj _ => hfi j hj, fun b hb => ?_, fun b hb => ?_⟩, g4, g5⟩
  · rw [hne _ (by omega) (by omega) (by omega)]; exact h.w0
  · rw [hne _ (by omega) (by omega) (by omega)]; exact h.w1
  · rw [hne _ (by omega) (by omega) (by omega)]; exact h.w2
  · rw [hne _ (by omega) (by omega) (by omega)]; exact h.w3
  · rw [hne _ (by omega) (by omega) (by omega)]; exact h.w9
  · rw [hne _ (by omega) (by omega) (by omega)]; exact h.wd j hj
  · rw [g4 _ (by omega), if_pos rfl]
  · rw [if_neg (by omega), g4 _ (by omega), if_neg (by omega), if_pos (by omega), h.we j hj1 hj2, if_pos rfl]
  · rw [g5 b hb]
    by_cases e : b = i
    · rw [if_pos e]
      exact ⟨fun _ => .inr (.inr (.inl (by omega))), fun _ => rfl⟩
    · rw [if_neg e, h.bits b hb]
      constructor
      · rintro (q | q | q | q)
        · exact .inl q
        · exact .inr (.inl q)
        · exact .inl (by omega)
        · exact .inr (.inr (.inr q))
      · rintro (q | q | q | q)
        · exact .inl q
        · exact .inr (.inl q)
        · omega
        · exact .inr (.inr (.inr q))
  · obtain ⟨o1, o2, o3, o4⟩ := h.od b hb
    exact ⟨o1, o2, o3, fun e => hoi (by rw [show i = b by omega]; exact hb)⟩

def bareB (f : Nat → Int) : Bool := (List.range 12).all fun k => decide (k < 4) || decide (f k = 0)
theorem bareB_iff {f : Nat → Int} : bareB f = true ↔ ∀ k : Nat, k < 12 → 4 ≤ k → f k = 0 := by
  unfold bareB
  simp only [List.all_eq_true, List.mem_range, Bool.or_eq_true, decide_eq_true_eq]
  exact ⟨fun q k k1 k2 => (q k k1).resolve_left (by omega), fun q k k1 => (Nat.lt_or_ge k 4).imp id (q k k1)⟩
theorem Mp.bare (h : Mp gi gb img l n O hd f c) (hc : c ≠ 0) : bbare_M img l 1 gi gb c = some (bareB f) := by
  have hg := h.dk.g
  have hrc := h.rc
  have hp := place9_in (n := c) h.dk.may (by omega)
  unfold bbare_M
  refine iter_run (fun p => 0 ≤ p ∧ p ≤ 8 ∧ ∀ k : Nat, k < 12 → 4 ≤ k → (k : Int) < 4 + p → f k = 0) (fun p => (8 - p).toNat) ?_ _ _ ⟨by omega, by omega, fun k _ _ _ => by omega⟩ (fuel_lt (by omega))
  rintro kk p ⟨h1, h2, h3⟩ ih
  unfold bbare_B0
  by_cases hp8 : p < 8
  · rw [if_pos hp8, hp]
    refine need_of (by omega) ?_
    have hw := h.we (4 + p.toNat) (by omega) (by omega)
    rw [if_neg hc, show 484 + 16 * gi + 8 * c + ((4 + p.toNat : Nat) : Int) = 488 + 16 * gi + 8 * c + p by omega] at hw
    rw [← hw]
    by_cases h0 : f (4 + p.toNat) = 0
    · rw [if_pos h0]
      refine need_of (by omega) (ih _ ⟨by omega, by omega, fun k k1 k2 k3 => ?_⟩ (by omega))
      by_cases e : k = 4 + p.toNat
      · rw [e]; exact h0
      · exact h3 k k1 k2 (by omega)
    · rw [if_neg h0]
      cases hb : bareB f with
      | false => rfl
      | true => exact absurd (bareB_iff.1 hb (4 + p.toNat) (by omega) (by omega)) h0
  · rw [if_neg hp8, bareB_iff.2 fun k k1 k2 => h3 k k1 k2 (by omega)]
def Full (f : Nat → Int) (c : Int) : Prop := c ≠ 0 → ∃ k, k < 12 ∧ 4 ≤ k ∧ f k ≠ 0
theorem Mp.drop (h : Mp gi gb img l n O hd f c) {k : Nat} (hk : k < 12) (hl : l.length + 4 ≤ 96) :
    ∃ m c', bDrop_M img l 1 gi gb n (k : Int) = some (0, m) ∧ m.length ≤ l.length + 4 ∧ Mp gi gb img m n O hd (upd f k 0) c' ∧ (Full f c → Full (upd f k 0) c') ∧ (c' = c ∨ c' = 0) ∧
      (∀ z, ¬ (480 ≤ z ∧ z < 488) → z ≠ wordAt gi n c k → z ≠ 496 + 16 * n → vget img m z = vget img l z) := by
  unfold bDrop_M
  rw [h.at hk]
  simp only [Option.bind, if_true]
  by_cases h0 : f k = 0
  · rw [if_pos h0]
    have e : upd f k 0 = f := by
      funext j
      unfold upd
      split
      · rename_i e; rw [e, h0]
      · rfl
    rw [e]
    exact ⟨l, c, rfl, by omega, h, id, .inl rfl, fun _ _ _ _ => rfl⟩
  · rw [if_neg h0, h.word hk]
    obtain ⟨m, g1, g2, g3, g4⟩ := h.giveW hk h0 (by omega)
    simp only [g1, if_true, g3.chain]
    by_cases hc : c = 0
    · rw [if_pos hc]
      unfold bDrop_J1
      rw [if_neg (by decide)]
      exact ⟨m, c, rfl, by omega, g3, fun _ q => absurd hc q, .inl rfl, fun z z1 z2 _ => g4 z z1 z2⟩
    · rw [if_neg hc, g3.bare hc]
      simp only
      unfold bDrop_J1
      by_cases hz : ∀ j : Nat, j < 12 → 4 ≤ j → upd f k 0 j = 0
      · rw [if_pos (bareB_iff.2 hz), g3.own (by omega), show 488 + 16 * n + 8 = 496 + 16 * n by omega]
        obtain ⟨m2, e1, e2, e3, e4⟩ := g3.giveC hc (fun j a b => hz j b a) (by omega)
        simp only [Option.bind, e1]
        exact ⟨m2, 0, rfl, by omega, e3, fun _ q => absurd rfl q, .inr rfl, fun z z1 z2 z3 => by rw [e4 z z1 z3, g4 z z1 z2]⟩
      · rw [if_neg fun q => hz (bareB_iff.1 q)]
        refine ⟨m, c, rfl, by omega, g3, fun _ _ => ?_, .inl rfl, fun z z1 z2 _ => g4 z z1 z2⟩
        obtain ⟨j, hj⟩ := Classical.not_forall.1 hz
        obtain ⟨hj1, hj⟩ := Classical.not_imp.1 hj
        obtain ⟨hj2, hj⟩ := Classical.not_imp.1 hj
        exact ⟨j, hj1, hj2, hj⟩
end

def listF (f : Nat → Int) : Nat → List Int
  | 0 => []
  | k + 1 => if f k = 0 then listF f k else listF f k ++ [f k]
def ownF (f : Nat → Int) (c : Int) : List Int := if c = 0 then listF f 12 else listF f 12 ++ [c]
theorem mem_listF {f : Nat → Int} {x : Int} : ∀ {n : Nat}, x ∈ listF f n ↔ x ≠ 0 ∧ ∃ k, k < n ∧ f k = x
  | 0 => by simp [listF]
  | n + 1 => by
    unfold listF
    by_cases h : f n = 0
    · rw [if_pos h, mem_listF]
      constructor
      · rintro ⟨h1, k, h2, h3⟩; exact ⟨h1, k, by omega, h3⟩
      · rintro ⟨h1, k, h2, h3⟩
        refine ⟨h1, k, ?_, h3⟩
        by_cases e : k = n
        · subst e; omega
        · omega
    · rw [if_neg h, List.mem_append, mem_listF, List.mem_singleton]
      constructor
      · rintro (⟨h1, k, h2, h3⟩ | rfl)
        · exact ⟨h1, k, by omega, h3⟩
        · exact ⟨h, n, by omega, rfl⟩
      · rintro ⟨h1, k, h2, h3⟩
        by_cases e : k = n
        · subst e; exact .inr h3.symm
        · exact .inl ⟨h1, k, by omega, h3⟩
theorem nodup_listF {f : Nat → Int} : ∀ {n : Nat}, (∀ j k, j < n → k < n → f j ≠ 0 → f j = f k → j = k) → (listF f n).Nodup
  | 0, _ => by simp [listF]
  | n + 1, h => by
    have ih := nodup_listF (f := f) (n := n) fun j k hj hk => h j k (by omega) (by omega)
    unfold listF
    by_cases h0 : f n = 0
    · rw [if_pos h0]; exact ih
    · rw [if_neg h0]
      refine List.nodup_append.2 ⟨ih, by simp, fun a ha b hb e => ?_⟩
      rw [List.mem_singleton] at hb
      subst hb
      subst e
      obtain ⟨_, k, hk, e2⟩ := mem_listF.1 ha
      have := h k n (by omega) (by omega) (by omega) e2
      omega
theorem mem_ownF {f : Nat → Int} {c x : Int} : x ∈ ownF f c ↔ x ≠ 0 ∧ ((∃ k, k < 12 ∧ f k = x) ∨ c = x) := by
  unfold ownF
  by_cases h : c = 0
  · rw [if_pos h, mem_listF]
    constructor
    · rintro ⟨h1, h2⟩; exact ⟨h1, .inl h2⟩
    · rintro ⟨h1, h2 | h2⟩
      · exact ⟨h1, h2⟩
      · omega
  · rw [if_neg h, List.mem_append, mem_listF, List.mem_singleton]
    constructor
    · rintro (⟨h1, h2⟩ | rfl)
      · exact ⟨h1, .inl h2⟩
      · exact ⟨h, .inr rfl⟩
    · rintro ⟨h1, h2 | h2⟩
      · exact .inl ⟨h1, h2⟩
      · exact .inr h2.symm
theorem listF_congr {f g : Nat → Int} : ∀ {n : Nat}, (∀ k, k < n → f k = g k) → listF f n = listF g n
  | 0, _ => rfl
  | n + 1, h => by
    unfold listF
    rw [h n (by omega), listF_congr fun k hk => h k (by omega)]
theorem listF_upd {f : Nat → Int} {k : Nat} {b : Int} (h0 : f k = 0) (hb : b ≠ 0) : ∀ {n : Nat}, (listF (upd f k b) n).length = (listF f n).length + (if k < n then 1 else 0)
  | 0 => by simp [listF]
  | n + 1 => by
    have ih := listF_upd h0 hb (n := n)
    unfold listF
    by_cases e : n = k
    · subst e
      rw [upd_at, if_neg hb, if_pos h0, if_pos (by omega), List.length_append, ih, if_neg (by omega)]
      rfl
    · rw [upd_ne e]
      by_cases hk : k < n
      · rw [if_pos hk] at ih
        rw [if_pos (show k < n + 1 by omega)]
        split
        · exact ih
        · simp only [List.length_append, List.length_cons, List.length_nil]; omega
      · rw [if_neg hk] at ih
        rw [if_neg (show ¬ k < n + 1 by omega)]
        split
        · exact ih
        · simp only [List.length_append, List.length_cons, List.length_nil]; omega
theorem cnt_list {gb : Nat} : ∀ {xs : List Int}, xs.Nodup → (∀ x ∈ xs, 0 < x ∧ x < (gb : Int)) → 0 < gb → cnt (fun b => decide (b = 0) || decide ((b : Int) ∈ xs)) gb = 1 + xs.length
  | [], _, _, h => by
    have e : cnt (fun b => decide (b = 0) || decide ((b : Int) ∈ ([] : List Int))) gb = cnt (fun b => decide (b < 1)) gb := cnt_congr fun i hi => by simp [Nat.lt_one_iff]
    rw [e, cnt_dec]
    simp
    omega
  | x :: xs, hn, hr, h => by
    have hx := hr x (by simp)
    have hn' := List.nodup_cons.1 hn
    have ih := cnt_list hn'.2 (fun y hy => hr y (by simp [hy])) h
    have hset := cnt_set (f := fun b => decide (b = 0) || decide ((b : Int) ∈ xs)) (j := x.toNat) (b := true) (n := gb) (by omega)
    have e : cnt (fun b => decide (b = 0) || decide ((b : Int) ∈ x :: xs)) gb = cnt (fun i => if i = x.toNat then true else decide (i = 0) || decide ((i : Int) ∈ xs)) gb := cnt_congr fun i hi => by
      by_cases e : i = x.toNat
      · rw [if_pos e, Bool.or_eq_true]
        refine .inr (decide_eq_true ?_)
        rw [show (i : Int) = x by omega]
        simp
      · rw [if_neg e]
        congr 1
        exact decide_eq_decide.2 ⟨fun q => (List.mem_cons.1 q).resolve_left (by omega), fun q => List.mem_cons.2 (.inr q)⟩
    have h0 : (decide (x.toNat = 0) || decide (((x.toNat : Nat) : Int) ∈ xs)) = false := by
      rw [Bool.or_eq_false_iff]
      refine ⟨decide_eq_false (by omega), decide_eq_false fun q => hn'.1 ?_⟩
      rw [show x = ((x.toNat : Nat) : Int) by omega]
      exact q
    rw [h0, ih, ← e] at hset
    simp at hset ⊢
    omega
section
variable {gi gb : Int} {img : List Int} {l : List (Int × Int)} {n : Int} {O : Nat → Prop} {hd : Hd} {f : Nat → Int} {c : Int}
theorem Mp.nodup (h : Mp gi gb img l n O hd f c) : (ownF f c).Nodup := by
  have hl := nodup_listF (f := f) (n := 12) h.inj
  unfold ownF
  by_cases hc : c = 0
  · rw [if_pos hc]; exact hl
  · rw [if_neg hc]
    refine List.nodup_append.2 ⟨hl, by simp, fun a ha b hb e => ?_⟩
    rw [List.mem_singleton] at hb
    subst hb
    subst e
    obtain ⟨_, k, hk, e2⟩ := mem_listF.1 ha
    exact h.fc k hk hc e2
theorem Mp.ownIn (h : Mp gi gb img l n O hd f c) : ∀ x ∈ ownF f c, 0 < x ∧ x < gb := by
  intro x hx
  obtain ⟨h1, h2⟩ := mem_ownF.1 hx
  have hrc := h.rc
  rcases h2 with ⟨k, hk, e⟩ | e
  · have := h.rf k hk
    omega
  · omega
theorem Mp.count (h : Mp gi gb img l n O hd f c) (hO : ∀ b, ¬ O b) : cnt (mbits img l 480) gb.toNat = 1 + (ownF f c).length := by
  have hg := h.dk.g
  rw [← cnt_list (gb := gb.toNat) h.nodup (fun x hx => by have := h.ownIn x hx; omega) (by omega)]
  refine cnt_congr fun b hb => ?_
  rw [Bool.eq_iff_iff, h.bits b (by omega), Bool.or_eq_true, decide_eq_true_iff, decide_eq_true_iff, mem_ownF]
  constructor
  · rintro (q | q | q | q)
    · exact .inl q
    · by_cases e : b = 0
      · exact .inl e
      · exact .inr ⟨by omega, .inl q⟩
    · by_cases e : b = 0
      · exact .inl e
      · exact .inr ⟨by omega, .inr q⟩
    · exact absurd q (hO b)
  · rintro (q | ⟨_, q | q⟩)
    · exact .inl q
    · exact .inr (.inl q)
    · exact .inr (.inr (.inl q))
theorem Mp.take (h : Mp gi gb img l n O hd f c) {k : Nat} (hk : k < 12) (hl : l.length + 20 ≤ 96) :
    (f k ≠ 0 ∧ bTake_M img l 1 gi gb n (k : Int) = some (f k, 0, l)) ∨
    (f k = 0 ∧ gb - (cnt (mbits img l 480) gb.toNat : Nat) < needF f c k ∧ bTake_M img l 1 gi gb n (k : Int) = some (0, 7, l)) ∨
    (f k = 0 ∧ ¬ gb - (cnt (mbits img l 480) gb.toNat : Nat) < needF f c k ∧ ∃ m b c', bTake_M img l 1 gi gb n (k : Int) = some (b, 0, m) ∧ m.length ≤ l.length + 20 ∧ Mp gi gb img m n O hd (upd f k b) c' ∧ 0 < b ∧ mbits img l 480 b.toNat = false ∧
      (c' = c ∧ (k < 4 ∨ c ≠ 0) ∨ c = 0 ∧ 4 ≤ k ∧ 0 < c' ∧ mbits img l 480 c'.toNat = false) ∧ (∀ z, 488 + 16 * gi + 8 * b ≤ z ∧ z < 488 + 16 * gi + 8 * b + 8 → vget img m z = 0) ∧
      (∀ z, ¬ (480 ≤ z ∧ z < 488) → ¬ (492 + 16 * n ≤ z ∧ z ≤ 496 + 16 * n) → ¬ (488 + 16 * gi + 8 * b ≤ z ∧ z < 488 + 16 * gi + 8 * b + 8) → ¬ (4 ≤ k ∧ 488 + 16 * gi + 8 * c' ≤ z ∧ z < 488 + 16 * gi + 8 * c' + 8) → vget img m z = vget img l z)) := by
  have hg := h.dk.g
  have hlen := h.dk.len
  have hw := h.dk.words
  have hnr := h.nr
  have hrc := h.rc
  unfold bTake_M
  rw [h.at hk]
  simp only [Option.bind, if_true]
  unfold bTake_J1
  by_cases h0 : f k = 0
  rotate_left
  · refine .inl ⟨h0, ?_⟩
    rw [if_pos (by simp [h0])]
  refine .inr ?_
  rw [decide_eq_true h0, if_neg (by decide)]
  have hcnt := cnt_le (mbits img l 480) gb.toNat
  have hfree := afree_ok (img := img) (l := l) (gi := gi) (gb := gb) (ia := 472) (ba := 480) h.dk.vr (by omega) (by omega) (by omega) (by omega)
  unfold freeF at hfree
  have hN : needF f c k = if k < 4 ∨ c ≠ 0 then 1 else 2 := by unfold needF; rw [if_pos h0]
  rw [show ∀ x : Option (Int × Int × List (Int × Int)), Go.Proofs.YtmmclabkkigiaaaGreatDoor.need ((img.length : Int) ≤ 1000000000000) x = x from fun x => need_of (by omega) rfl, if_pos ⟨h.dk.may, by omega⟩, place6 h.dk.may, place7 h.dk.may]
  simp only [Int.reduceMul, Int.reduceAdd]
  rw [hfree, h.need hk]
  simp only [Option.bind]
  by_cases hfr : gb - (cnt (mbits img l 480) gb.toNat : Nat) < needF f c k
  · rw [if_pos hfr]
    exact .inl ⟨h0, hfr, rfl⟩
  refine .inr ⟨h0, hfr, ?_⟩
  rw [if_neg hfr, h.word hk]
  simp only
  -- the least one that is free
  have lowest : ∀ l', cnt (mbits img l' 480) gb.toNat < gb.toNat → ∃ i, i < gb.toNat ∧ mbits img l' 480 i = false ∧ ∀ j, j < i → mbits img l' 480 j = true := fun l' hl' => by
    rcases lst_cases (mbits img l' 480) gb.toNat with ⟨i, h1, h2, h3, _⟩ | ⟨h1, _⟩
    · exact ⟨i, h1, h2, h3⟩
    · have := cnt_full h1
      omega
  obtain ⟨i, i1, i2, i3⟩ := lowest l (by rw [hN] at hfr; split at hfr <;> omega)
  by_cases hc : k < 4 ∨ c ≠ 0
  · have ht : (if k < 4 then true else !decide (c = 0)) = true := by
      rcases hc with hc | hc
      · rw [if_pos hc]
      · split
        · rfl
        · simp [hc]
    rw [ht, if_pos rfl]
    obtain ⟨m, t1, t2, t3, t4, t5, t6⟩ := h.takeW hk hc h0 i1 i2 i3 (by omega)
    unfold bTake_J2
    rw [t1]
    refine ⟨m, (i : Int), c, rfl, by omega, t4, by omega, by rw [Int.toNat_natCast]; exact i2, .inl ⟨rfl, hc⟩, fun z hz => ?_, fun z z1 z2 z3 z4 => ?_⟩
    · rw [t5 z (by omega), if_neg, if_pos hz]
      have hi3 : ¬ c = (i : Int) := fun e => by
        have := (h.bits i (by omega)).2 (.inr (.inr (.inl e)))
        rw [i2] at this
        cases this
      unfold wordAt
      by_cases h4 : k < 4
      · rw [if_pos h4]; omega
      · rw [if_neg h4]; omega
    · rw [t5 z z1, if_neg, if_neg z3]
      unfold wordAt
      by_cases h4 : k < 4
      · rw [if_pos h4]; omega
      · rw [if_neg h4]; omega
  · have hc0 : c = 0 := by omega
    have hk4 : 4 ≤ k := by omega
    subst hc0
    rw [if_neg (show ¬ k < 4 by omega), if_neg (by simp), h.own (by omega), show 488 + 16 * n + 8 = 496 + 16 * n by omega]
    simp only
    obtain ⟨m1, t1, t2, t3, t4, t5, t6⟩ := h.takeC i1 i2 i3 (by omega)
    rw [t1]
    simp only [if_true]
    rw [t4.word hk]
    simp only
    have hset := cnt_set (f := mbits img l 480) (j := i) (b := true) (n := gb.toNat) i1
    have hcc : cnt (mbits img m1 480) gb.toNat = cnt (fun j => if j = i then true else mbits img l 480 j) gb.toNat := cnt_congr fun j hj => t6 j (by omega)
    rw [← hcc, i2] at hset
    simp at hset
    have hN2 : needF f 0 k = 2 := by rw [hN, if_neg (by omega)]
    rw [hN2] at hfr
    obtain ⟨i', j1, j2, j3⟩ := lowest m1 (by omega)
    obtain ⟨m, s1, s2, s3, s4, s5, s6⟩ := t4.takeW hk (.inr (by omega)) h0 j1 j2 j3 (by omega)
    unfold bTake_J2
    rw [s1]
    have hii : i' ≠ i := fun e => by
      have := t6 i' (by omega)
      rw [if_pos e, j2] at this
      cases this
    have hb0 : mbits img l 480 i' = false := by
      have := t6 i' (by omega)
      rw [if_neg hii, j2] at this
      exact this.symm
    refine ⟨m, (i' : Int), (i : Int), rfl, by omega, s4, by omega, by rw [Int.toNat_natCast]; exact hb0, .inr ⟨by trivial, hk4, by omega, by rw [Int.toNat_natCast]; exact i2⟩, fun z hz => ?_, fun z z1 z2 z3 z4 => ?_⟩
    · rw [s5 z (by omega), if_neg, if_pos hz]
      unfold wordAt
      rw [if_neg (by omega)]
      omega
    · rw [s5 z z1, if_neg, if_neg z3, t5 z z1, if_neg (by omega), if_neg (by omega)]
      unfold wordAt
      rw [if_neg (by omega)]
      omega
end

section
variable {gi gb : Int} {img : List Int} {l : List (Int × Int)} {n : Int} {O : Nat → Prop} {hd : Hd} {f : Nat → Int} {c : Int}
theorem Dk.flat (h : Dk gi gb img l) : Dk gi gb (vflat img l) [] := by
  have hl := vflat_length img l
  have := h.g
  have := h.len
  exact ⟨h.may, by rw [hl]; exact h.len, VR.nil (u64_flat h.ok h.vr), VOk.nil (by omega)⟩
theorem Mp.flat (h : Mp gi gb img l n O hd f c) : Mp gi gb (vflat img l) [] n O hd f c := by
  have e := fun k => vget_flat h.dk.ok k
  refine ⟨h.dk.flat, h.nr, h.hd, ?_, ?_, ?_, ?_, ?_, fun k hk => ?_, ?_, fun k k1 k2 => ?_, h.rf, h.rc, h.inj, h.fc, fun b hb => ?_, h.od⟩
  · rw [e]; exact h.w0
  · rw [e]; exact h.w1
  · rw [e]; exact h.w2
  · rw [e]; exact h.w3
  · rw [e]; exact h.w9
  · rw [e]; exact h.wd k hk
  · rw [e]; exact h.w8
  · rw [e]; exact h.we k k1 k2
  · rw [mbits_flat h.dk.ok]; exact h.bits b hb
theorem Dk.start (hm : May 1 gi gb) (hl : (img.length : Int) = 488 + 16 * gi + 8 * gb) (hu : ∀ x ∈ img, U64 x) : Dk gi gb img [] := by
  have := may_out hm
  exact ⟨hm, hl, VR.nil hu, VOk.nil (by omega)⟩
theorem Dk.fmt (hm : May 1 gi gb) : Dk gi gb (fmtW 1 gi gb) [] := by
  have := fmtW_len 1 gi gb
  have := words_may hm
  have := may_out hm
  exact Dk.start hm (by omega) fmtW_u64
theorem Mp.fmt (hm : May 1 gi gb) : Mp gi gb (fmtW 1 gi gb) [] 1 (fun _ => False) ⟨2, 1, 0, 0, 0⟩ (fun _ => 0) 0 := by
  have hm_ := may_out hm
  have hw := words_may hm
  have w : ∀ z : Int, 0 ≤ z → z < 488 + 16 * gi + 8 * gb → 488 ≤ z → vget (fmtW 1 gi gb) [] z = if z = 505 then 1 else if z = 504 then 2 else 0 := fun z h0 h1 h2 => by
    rw [fmt_vget hm (by omega)]
    simp only [Int.mul_one, Int.reduceAdd, Int.reduceMul]
    rw [if_neg (show ¬ z = 480 by omega), if_neg (show ¬ z = 472 by omega), if_neg (show ¬ z = 3 by omega), if_neg (show ¬ z = 2 by omega), if_neg (show ¬ z = 1 by omega), if_neg (show ¬ z = 0 by omega)]
  refine ⟨Dk.fmt hm, by omega, ⟨show (0 : Int) < gi by omega, ⟨show (1 : Int) ≤ 65536 by omega, show (0 : Int) ≤ 16 by omega, show (0 : Int) ≤ 768 by omega⟩, .inr ⟨rfl, rfl⟩⟩, ?_, ?_, ?_, ?_, ?_, fun k hk => ?_, ?_, fun k _ _ => by rw [if_pos rfl], fun k _ => ⟨Int.le_refl 0, show (0 : Int) < gb by omega⟩, by omega, fun j k _ _ h => absurd rfl h, fun k _ h => absurd rfl h, fun b hb => ?_, fun b hb => hb.elim⟩
  · rw [w _ (by omega) (by omega) (by omega), if_neg (by omega), if_pos (by omega)]
  · rw [w _ (by omega) (by omega) (by omega), if_pos (by omega)]
  · rw [w _ (by omega) (by omega) (by omega), if_neg (by omega), if_neg (by omega)]
  · rw [w _ (by omega) (by omega) (by omega), if_neg (by omega), if_neg (by omega)]
  · rw [w _ (by omega) (by omega) (by omega), if_neg (by omega), if_neg (by omega)]
  · rw [w _ (by omega) (by omega) (by omega), if_neg (by omega), if_neg (by omega)]
  · rw [w _ (by omega) (by omega) (by omega), if_neg (by omega), if_neg (by omega)]
  · have eb := fmt_bbits hm hb
    simp only [Int.reduceMul, Int.reduceAdd] at eb
    rw [eb, decide_eq_true_iff]
    constructor
    · exact .inl
    · rintro (q | ⟨_, _, q⟩ | q | q)
      · exact q
      · omega
      · omega
      · exact q.elim
theorem Mp.free (h : Mp gi gb img l n O hd f c) : afree_M img l gi gb 472 480 = some (gi - (cnt (mbits img l 472) gi.toNat : Nat), gb - (cnt (mbits img l 480) gb.toNat : Nat)) := by
  have hg := h.dk.g
  have := afree_ok (img := img) (l := l) (gi := gi) (gb := gb) (ia := 472) (ba := 480) h.dk.vr (by omega) (by omega) (by omega) (by omega)
  unfold freeF at this
  exact this
end

end Go.Proofs.YtmmclabkkigiaaaGreatDoor

namespace Go.Proofs.YtmmclabkkigiaaaGreatDoor
open Go Go.RowKit
set_option linter.unusedVariables false
set_option linter.unusedSimpArgs false

structure EntAt (gi : Int) (img : List Int) (l : List (Int × Int)) (base : Int) (nm : ByteArray) (v : Int) : Prop where
  may : mayB nm = true
  num : 1 ≤ v ∧ v < gi
  w0 : vget img l base = v
  w1 : vget img l (base + 1) = (nm.size : Int)
  wn : ∀ q : Nat, q < (nm.size + 7) / 8 → vget img l (base + 2 + (q : Int)) = (packF nm).getD q 0
structure Dir (gi gb : Int) (img : List Int) (l : List (Int × Int)) (f : Nat → Int) (c : Int) (E : Nat → ByteArray) (V : Nat → Int) : Prop where
  mp : Mp gi gb img l 1 (fun _ => False) ⟨2, 1, 0, 0, 0⟩ f c
  ent : ∀ k, k < 12 → f k ≠ 0 → EntAt gi img l (488 + 16 * gi + 8 * f k) (E k) (V k)
section
variable {gi gb : Int} {img : List Int} {l : List (Int × Int)} {f : Nat → Int} {c : Int} {E : Nat → ByteArray} {V : Nat → Int}
theorem Dir.entry (h : Dir gi gb img l f c E V) {k : Nat} (hk : k < 12) : tentry_M img l 1 gi gb 1 (k : Int) = some (if f k = 0 then (ByteArray.empty, 0, 0) else (E k, V k, 0)) := by
  have hg := h.mp.dk.g
  have hr := h.mp.rf k hk
  unfold tentry_M
  refine bind_of (h.mp.at hk) ?_
  rw [if_pos rfl]
  unfold tentry_J1
  by_cases h0 : f k = 0
  · rw [if_pos (decide_eq_true h0), if_pos h0]
  rw [if_neg (by simp [h0]), if_neg h0, place9_in (n := f k) h.mp.dk.may (by omega)]
  have e := h.ent k hk h0
  have hm := mayB_iff.1 e.may
  have hv := e.num
  refine bind_of rfl (need_of (by omega) ?_)
  rw [e.w0, e.w1, if_neg (by omega)]
  refine need_of (by omega) ?_
  rw [if_neg (by omega), decide_eq_false (show ¬ ((E k).size : Int) > 40 by omega)]
  unfold tentry_J2
  rw [if_neg (by decide)]
  generalize hB : 488 + 16 * gi + 8 * f k = base at *
  refine iter_run (fun s : List Int × Int => (2 ≤ s.2 ∧ s.2 ≤ 8) ∧ s.1 = (List.range (s.2 - 2).toNat).map fun (q : Nat) => vget img l (base + 2 + (q : Int))) (fun s => (8 - s.2).toNat) ?_ _ _ ⟨by simp, rfl⟩ (fuel_lt (by simp only; omega))
  rintro k2 ⟨q, p⟩ ⟨h1, h2⟩ ih
  simp only at h1 h2 ih
  unfold tentry_B0
  simp only
  by_cases hp : p < 8
  · rw [if_pos hp]
    refine need_of (by omega) (need_of (by rw [h2, List.length_map, List.length_range]; omega) (need_of (by omega) (ih _ ⟨by simp only; omega, ?_⟩ (by simp only; omega))))
    simp only
    rw [h2, show (p + 1 - 2).toNat = (p - 2).toNat + 1 by omega, List.range_succ, List.map_append]
    congr 1
    simp only [List.map_cons, List.map_nil]
    congr 2
    omega
  · rw [if_neg hp]
    unfold tentry_J3
    rw [e.w1]
    have hq : q.length = 6 := by rw [h2, List.length_map, List.length_range]; omega
    have hu := unpack_eq (ws := q) (n := ((E k).size : Int)) (by omega) (by omega) (by omega)
    rw [Int.toNat_natCast, bytesF_pack (s := E k) (fun j hj => by
      rw [← e.wn j hj, h2]
      simp only [List.getD, List.getElem?_map, List.getElem?_range (show j < (p - 2).toNat by omega), Option.map_some, Option.getD_some]), str_nums] at hu
    refine need_of (by omega) (bind_of hu ?_)
    simp only
    rw [if_pos trivial]
    refine bind_of (emay_eq (E k)) ?_
    rw [e.may]
    unfold tentry_J4
    rw [if_neg (by decide), e.w0]
    exact need_of (by omega) rfl
theorem Dir.find (h : Dir gi gb img l f c E V) (tx : ByteArray) :
    (mayB tx = false ∧ tfind_M img l 1 gi gb 1 tx = some (ByteArray.empty, 0, 0, 13)) ∨
    (mayB tx = true ∧ (∃ p, p < 12 ∧ f p ≠ 0 ∧ E p = tx ∧ tfind_M img l 1 gi gb 1 tx = some (tx, V p, (p : Int), 0))) ∨
    (mayB tx = true ∧ (∀ p, p < 12 → f p ≠ 0 → E p ≠ tx) ∧ tfind_M img l 1 gi gb 1 tx = some (ByteArray.empty, 0, 0, 6)) := by
  rcases ebegin_any tx with ⟨m1, b1⟩ | ⟨m1, ws, r, _, _, hr, b1⟩
  · refine .inl ⟨m1, ?_⟩
    unfold tfind_M
    refine bind_of (emay_eq tx) ?_
    rw [m1]
    rfl
  refine .inr ?_
  suffices H : Ok (fun x => (∃ p : Nat, p < 12 ∧ f p ≠ 0 ∧ E p = tx ∧ x = (tx, V p, (p : Int), 0)) ∨ ((∀ p, p < 12 → f p ≠ 0 → E p ≠ tx) ∧ x = (ByteArray.empty, 0, 0, 6))) (tfind_M img l 1 gi gb 1 tx) by
    obtain ⟨x, hx, ⟨p, p1, p2, p3, rfl⟩ | ⟨hn, rfl⟩⟩ := H
    · exact .inl ⟨m1, p, p1, p2, p3, hx⟩
    · exact .inr ⟨m1, hn, hx⟩
  unfold tfind_M
  refine Ok.got15 (emay_eq tx) (Ok.yes m1 (Ok.got15 b1 (Ok.need (by omega) ?_)))
  obtain ⟨b, hb⟩ : ∃ b : Nat, r % 12 = (b : Int) := ⟨(r % 12).toNat, by omega⟩
  have hb12 : b < 12 := by omega
  rw [hb]
  refine rounds_ok (fun k (_ : Unit) => ∀ j, j < k → f ((b + j) % 12) ≠ 0 → E ((b + j) % 12) ≠ tx) 12 (fun k c2 s hk hI ih => ?_) (fun s hI => ?_) _ _ _ (by omega) (fun j hj => absurd hj (by omega))
  · unfold tfind_R40
    refine Ok.name fun z hz => ?_
    have ez : z = (((b + k) % 12 : Nat) : Int) := by omega
    have hp : (b + k) % 12 < 12 := by omega
    rw [ez]
    refine Ok.got15 (h.entry hp) ?_
    by_cases h0 : f ((b + k) % 12) = 0
    · rw [if_pos h0]
      refine Ok.yes rfl (Ok.no (fun q => ?_) (ih () fun j hj hq => ?_))
      · have := (mayB_iff.1 m1).1
        rw [← q.1] at this
        simp at this
      · by_cases ej : j = k
        · rw [ej] at hq; exact absurd h0 hq
        · exact hI j (by omega) hq
    · rw [if_neg h0]
      refine Ok.yes rfl (Ok.ite (fun q => ?_) (fun q => ih () fun j hj hq => ?_))
      · unfold tfind_X40
        exact Ok.some (.inl ⟨_, hp, h0, q.1, by rw [q.1]⟩)
      · by_cases ej : j = k
        · rw [ej]; exact fun e => q ⟨e, rfl⟩
        · exact hI j (by omega) hq
  · unfold tfind_D40
    refine Ok.some (.inr ⟨fun p hp hq => ?_, rfl⟩)
    have := hI ((p + 12 - b) % 12) (by omega)
    rw [show (b + (p + 12 - b) % 12) % 12 = p by omega] at this
    exact this hq
end
end Go.Proofs.YtmmclabkkigiaaaGreatDoor

namespace Go.Proofs.YtmmclabkkigiaaaGreatDoor
open Go Go.RowKit
set_option linter.unusedVariables false
set_option linter.unusedSimpArgs false

def updA {α : Type} (f : Nat → α) (k : Nat) (x : α) : Nat → α := fun j => if j = k then x else f j
theorem updA_at {α : Type} (f : Nat → α) (k : Nat) (x : α) : updA f k x k = x := if_pos rfl
theorem updA_ne {α : Type} {f : Nat → α} {k j : Nat} {x : α} (h : j ≠ k) : updA f k x j = f j := if_neg h
section
variable {gi gb : Int} {img : List Int} {l : List (Int × Int)} {n : Int} {O : Nat → Prop} {hd : Hd} {f : Nat → Int} {c : Int} {E : Nat → ByteArray} {V : Nat → Int}
theorem Mp.data1 (h : Mp gi gb img l n O hd f c) {m : List (Int × Int)} (hm : Dk gi gb img m) {k : Nat} (hk : k < 12) (h0 : f k ≠ 0) (hw : ∀ z, ¬ (488 + 16 * gi + 8 * f k ≤ z ∧ z < 488 + 16 * gi + 8 * f k + 8) → vget img m z = vget img l z) : Mp gi gb img m n O hd f c := by
  have hg := h.dk.g
  have hnr := h.nr
  have hr := h.rf k hk
  have hrc := h.rc
  refine ⟨hm, hnr, h.hd, ?_, ?_, ?_, ?_, ?_, fun j hj => ?_, ?_, fun j j1 j2 => ?_, h.rf, hrc, h.inj, h.fc, fun b hb => ?_, h.od⟩
  · rw [hw _ (by omega)]; exact h.w0
  · rw [hw _ (by omega)]; exact h.w1
  · rw [hw _ (by omega)]; exact h.w2
  · rw [hw _ (by omega)]; exact h.w3
  · rw [hw _ (by omega)]; exact h.w9
  · rw [hw _ (by omega)]; exact h.wd j hj
  · rw [hw _ (by omega)]; exact h.w8
  · rw [h.we j j1 j2]
    by_cases hc : c = 0
    · rw [if_pos hc, if_pos hc]
    · have := h.fc k hk hc
      rw [if_neg hc, if_neg hc, hw _ (by omega)]
  · rw [← h.bits b hb]
    rw [mbits_congr (img' := img) (l' := l) (hw _ (by omega))]
theorem wr_ok (h : Dk gi gb img l) {b : Int} (hb : 0 < b ∧ b < gb) {r : Int × Int × List (Int × Int)} (hr : r.1 = b ∧ r.2.2 = l) {xs : List Int} (hx : ∀ x ∈ xs, U64 x) (hn : xs.length ≤ 8) (hl : l.length + 8 ≤ 96) :
    ∃ m, tadd_J4 img 1 gi gb r xs (xs.length : Int) = some (0, m) ∧ Dk gi gb img m ∧ m.length ≤ l.length + 8 ∧ ∀ z, vget img m z = if 488 + 16 * gi + 8 * b ≤ z ∧ z < 488 + 16 * gi + 8 * b + (xs.length : Int) then xs.getD (z - (488 + 16 * gi + 8 * b)).toNat 0 else vget img l z := by
  have hg := h.g
  have hlen := h.len
  have hp := place9_in (n := b) h.may (by omega)
  suffices H : Ok (fun y : Int × List (Int × Int) => y.1 = 0 ∧ Dk gi gb img y.2 ∧ y.2.length ≤ l.length + 8 ∧ ∀ z, vget img y.2 z = if 488 + 16 * gi + 8 * b ≤ z ∧ z < 488 + 16 * gi + 8 * b + (xs.length : Int) then xs.getD (z - (488 + 16 * gi + 8 * b)).toNat 0 else vget img l z) (tadd_J4 img 1 gi gb r xs (xs.length : Int)) by
    obtain ⟨⟨e, m⟩, e1, e2, e3⟩ := H
    simp only at e2 e3
    subst e2
    exact ⟨m, e1, e3⟩
  unfold tadd_J4
  rw [hr.2]
  refine Ok.iter (fun s : List (Int × Int) × Int => (0 ≤ s.2 ∧ s.2 ≤ (xs.length : Int)) ∧ Dk gi gb img s.1 ∧ (s.1.length : Int) ≤ l.length + s.2 ∧ ∀ z, vget img s.1 z = if 488 + 16 * gi + 8 * b ≤ z ∧ z < 488 + 16 * gi + 8 * b + s.2 then xs.getD (z - (488 + 16 * gi + 8 * b)).toNat 0 else vget img l z)
    (fun s => ((xs.length : Int) - s.2).toNat) ?_ _ _ ⟨by simp, h, by simp, fun z => by rw [if_neg (by simp only; omega)]⟩ (fuel_lt (by simp only; omega))
  rintro k ⟨m, p⟩ ⟨h1, h2, h3, h4⟩ ih
  simp only at h1 h2 h3 h4 ih
  show Ok _ (tadd_B0 img 1 gi gb r xs (xs.length : Int) k m p)
  unfold tadd_B0
  rw [hr.1, hp]
  refine Ok.ite (fun hp2 => ?_) (fun hp2 => ?_)
  · have hxm : xs.getD p.toNat 0 ∈ xs := by simp [List.getD, show p.toNat < xs.length by omega]
    obtain ⟨m2, e1, e2, e3, e4⟩ := h2.write (a := 488 + 16 * gi + 8 * b + p) (x := xs.getD p.toNat 0) (by omega) (hx _ hxm) (by omega)
    refine Ok.need (by omega) (Ok.need (by omega) ?_)
    rw [e1]
    refine Ok.yes rfl (Ok.need (by omega) (ih _ ⟨by simp only; omega, e2, by simp only; omega, fun z => ?_⟩ (by simp only; omega)))
    simp only
    rw [e4, h4]
    by_cases ez : z = 488 + 16 * gi + 8 * b + p
    · rw [if_pos ez, if_pos (by omega)]
      congr 1
      omega
    · rw [if_neg ez]
      by_cases q : 488 + 16 * gi + 8 * b ≤ z ∧ z < 488 + 16 * gi + 8 * b + p
      · rw [if_pos q, if_pos (by omega)]
      · rw [if_neg q, if_neg (by omega)]
  · unfold tadd_X27
    have : p = (xs.length : Int) := by omega
    exact Ok.some ⟨rfl, h2, by simp only; omega, fun z => by rw [h4, this]⟩
theorem Dir.add (h : Dir gi gb img l f c E V) (hl : l.length + 30 ≤ 96) {xn : ByteArray} {xi : Int} (hm : mayB xn = true) (hv : 1 ≤ xi ∧ xi < gi) :
    (∃ p, p < 12 ∧ f p = 0 ∧ ∃ m b c', tadd_M img l 1 gi gb 1 xn xi = some (0, m) ∧ Dir gi gb img m (upd f p b) c' (updA E p xn) (updA V p xi) ∧ b ≠ 0 ∧ m.length ≤ l.length + 30) ∨
    (∃ p, p < 12 ∧ f p = 0 ∧ gb - (cnt (mbits img l 480) gb.toNat : Nat) < needF f c p ∧ tadd_M img l 1 gi gb 1 xn xi = some (7, l)) ∨
    ((∀ p, p < 12 → f p ≠ 0) ∧ tadd_M img l 1 gi gb 1 xn xi = some (16, l)) := by
  have hg := h.mp.dk.g
  have hm1 := mayB_iff.1 hm
  rcases ebegin_any xn with ⟨m1, b1⟩ | ⟨m1, ws, r, _, _, hr, b1⟩
  · rw [m1] at hm; cases hm
  suffices H : Ok (fun x : Int × List (Int × Int) => (∃ p, p < 12 ∧ f p = 0 ∧ ∃ b c', x.1 = 0 ∧ Dir gi gb img x.2 (upd f p b) c' (updA E p xn) (updA V p xi) ∧ b ≠ 0 ∧ x.2.length ≤ l.length + 30) ∨ (∃ p, p < 12 ∧ f p = 0 ∧ gb - (cnt (mbits img l 480) gb.toNat : Nat) < needF f c p ∧ x = (7, l)) ∨ ((∀ p, p < 12 → f p ≠ 0) ∧ x = (16, l))) (tadd_M img l 1 gi gb 1 xn xi) by
    obtain ⟨⟨e, m⟩, hx, ⟨p, p1, p2, b, c', p3, p4⟩ | ⟨p, p1, p2, p3, p4⟩ | ⟨p1, p2⟩⟩ := H
    · simp only at p3
      subst p3
      exact .inl ⟨p, p1, p2, m, b, c', hx, p4⟩
    · rw [p4] at hx
      exact .inr (.inl ⟨p, p1, p2, p3, hx⟩)
    · rw [p2] at hx
      exact .inr (.inr ⟨p1, hx⟩)
  unfold tadd_M
  refine Ok.got15 b1 (Ok.need (by omega) ?_)
  obtain ⟨b0, hb⟩ : ∃ b : Nat, r % 12 = (b : Int) := ⟨(r % 12).toNat, by omega⟩
  have hb12 : b0 < 12 := by omega
  rw [hb]
  refine rounds_ok (fun k (_ : Unit) => ∀ j, j < k → f ((b0 + j) % 12) ≠ 0) 12 (fun k c2 s hk hI ih => ?_) (fun s hI => ?_) _ _ _ (by omega) (fun j hj => absurd hj (by omega))
  rotate_left
  · unfold tadd_D27
    refine Ok.some (.inr (.inr ⟨fun p hp => ?_, rfl⟩))
    have := hI ((p + 12 - b0) % 12) (by omega)
    rw [show (b0 + (p + 12 - b0) % 12) % 12 = p by omega] at this
    exact this
  unfold tadd_R27
  refine Ok.name fun z hz => ?_
  have ez : z = (((b0 + k) % 12 : Nat) : Int) := by omega
  obtain ⟨p, ep⟩ : ∃ p, (b0 + k) % 12 = p := ⟨_, rfl⟩
  have hp : p < 12 := by omega
  rw [ez, ep]
  refine Ok.got15 (h.mp.at hp) (Ok.ite (fun h0 => Ok.yes rfl ?_) (fun h0 => ih () fun j hj => ?_))
  rotate_left
  · by_cases ej : j = k
    · rw [ej, ep]; exact h0
    · exact hI j (by omega)
  rcases h.mp.take hp (by omega) with ⟨a1, _⟩ | ⟨_, a3, a2⟩ | ⟨_, a3, m, b, c', a2, a4, a5, a6, a7, a8, a9, a10⟩
  · exact absurd h0 a1
  · refine Ok.got15 a2 (Ok.no (show ¬ (7 : Int) = 0 by decide) ?_)
    unfold tadd_X27
    exact Ok.some (.inr (.inl ⟨p, hp, h0, a3, rfl⟩))
  have hrb := a5.rf p hp
  rw [upd_at] at hrb
  have hpl := packF_len xn
  have hlen2 : ([xi, (xn.size : Int)] ++ packF xn).length = 2 + (xn.size + 7) / 8 := by rw [List.length_append, hpl]; rfl
  obtain ⟨m2, w1, w2, w3, w4⟩ := wr_ok a5.dk (b := b) (by omega) (r := (b, 0, m)) ⟨rfl, rfl⟩ (xs := [xi, (xn.size : Int)] ++ packF xn) (fun x hx => by
    rcases List.mem_append.1 hx with q | q
    · rcases List.mem_cons.1 q with rfl | q
      · unfold U64; omega
      · rw [List.mem_singleton] at q
        rw [q]; unfold U64; omega
    · exact packF_u64 xn x q) (by omega) (by omega)
  refine Ok.got15 a2 (Ok.yes rfl (Ok.need (by omega) (Ok.need (by omega) (Ok.got15 (opack_eq (by omega)) (Ok.need (by omega) ?_)))))
  refine ⟨_, w1, .inl ⟨p, hp, h0, b, c', rfl, ⟨?_, fun j hj hj0 => ?_⟩, by omega, by simp only; omega⟩⟩
  · exact a5.data1 w2 hp (by rw [upd_at]; omega) fun z hz => by
      rw [upd_at] at hz
      rw [w4, if_neg (by omega)]
  · by_cases ej : j = p
    · subst ej
      rw [upd_at, updA_at, updA_at]
      refine ⟨hm, hv, ?_, ?_, fun q hq => ?_⟩
      · rw [w4, if_pos (by omega), show (488 + 16 * gi + 8 * b - (488 + 16 * gi + 8 * b)).toNat = 0 by omega]
        rfl
      · rw [w4, if_pos (by omega), show (488 + 16 * gi + 8 * b + 1 - (488 + 16 * gi + 8 * b)).toNat = 1 by omega]
        rfl
      · rw [w4, if_pos (by omega), show (488 + 16 * gi + 8 * b + 2 + (q : Int) - (488 + 16 * gi + 8 * b)).toNat = 2 + q by omega, List.getD_eq_getElem?_getD, List.getElem?_append_right (by simp only [List.length_cons, List.length_nil]; omega), List.getD_eq_getElem?_getD]
        simp only [List.length_cons, List.length_nil, show 2 + q - (0 + 1 + 1) = q by omega]
    · rw [upd_ne ej] at hj0 ⊢
      rw [updA_ne ej, updA_ne ej]
      have e := h.ent j hj hj0
      have hrj := h.mp.rf j hj
      have hfb : f j ≠ b := fun q => ej (a5.inj j p hj hp (by rw [upd_ne ej]; exact hj0) (by rw [upd_ne ej, upd_at]; exact q))
      have hrc := a5.rc
      have hfc : c' ≠ 0 → f j ≠ c' := fun q => by
        have := a5.fc j hj q
        rw [upd_ne ej] at this
        exact this
      have same : ∀ d : Int, 0 ≤ d ∧ d < 8 → vget img m2 (488 + 16 * gi + 8 * f j + d) = vget img l (488 + 16 * gi + 8 * f j + d) := fun d hd => by
        have hnr := h.mp.nr
        rw [w4, if_neg (by omega)]
        refine a10 _ (by omega) (by omega) (by omega) ?_
        by_cases hc0 : c' = 0
        · subst hc0; omega
        · have := hfc hc0; omega
      have hsz := mayB_iff.1 e.may
      refine ⟨e.may, e.num, ?_, ?_, fun q hq => ?_⟩
      · have := same 0 (by omega)
        rw [Int.add_zero] at this
        rw [this]; exact e.w0
      · rw [same 1 (by omega)]; exact e.w1
      · have := same (2 + (q : Int)) (by omega)
        rw [← Int.add_assoc] at this
        rw [this]; exact e.wn q hq
end
end Go.Proofs.YtmmclabkkigiaaaGreatDoor

namespace Go.Proofs.YtmmclabkkigiaaaGreatDoor
open Go Go.RowKit
set_option linter.unusedVariables false
set_option linter.unusedSimpArgs false
section
variable {gi gb : Int} {img : List Int} {l : List (Int × Int)} {f : Nat → Int} {c : Int} {E : Nat → ByteArray} {V : Nat → Int}
theorem Dir.flat (h : Dir gi gb img l f c E V) : Dir gi gb (vflat img l) [] f c E V := by
  have e := fun k => vget_flat h.mp.dk.ok k
  refine ⟨h.mp.flat, fun k hk h0 => ?_⟩
  have q := h.ent k hk h0
  exact ⟨q.may, q.num, by rw [e]; exact q.w0, by rw [e]; exact q.w1, fun j hj => by rw [e]; exact q.wn j hj⟩
theorem Dir.drop (h : Dir gi gb img l f c E V) (hl : l.length + 4 ≤ 96) {p : Nat} (hp : p < 12) : ∃ m c', bDrop_M img l 1 gi gb 1 (p : Int) = some (0, m) ∧ Dir gi gb img m (upd f p 0) c' E V ∧ m.length ≤ l.length + 4 := by
  obtain ⟨m, c', e1, e2, e3, _, _, e6⟩ := h.mp.drop hp hl
  have hg := h.mp.dk.g
  have hnr := h.mp.nr
  refine ⟨m, c', e1, ⟨e3, fun j hj h0 => ?_⟩, e2⟩
  have ej : j ≠ p := fun q => h0 (by rw [q, upd_at])
  rw [upd_ne ej] at h0 ⊢
  have q := h.ent j hj h0
  have hr := h.mp.rf j hj
  have hrc := h.mp.rc
  have hfc := h.mp.fc j hj
  have hw : wordAt gi 1 c p = if p < 4 then 492 + 16 * 1 + (p : Int) else 484 + 16 * gi + 8 * c + (p : Int) := rfl
  have same : ∀ d : Int, 0 ≤ d ∧ d < 8 → vget img m (488 + 16 * gi + 8 * f j + d) = vget img l (488 + 16 * gi + 8 * f j + d) := fun d hd => by
    refine e6 _ (by omega) ?_ (by omega)
    rw [hw]
    by_cases hc0 : c = 0
    · split <;> omega
    · have := hfc hc0
      split <;> omega
  have hsz := mayB_iff.1 q.may
  refine ⟨q.may, q.num, ?_, ?_, fun t ht => ?_⟩
  · have := same 0 (by omega)
    rw [Int.add_zero] at this
    rw [this]; exact q.w0
  · rw [same 1 (by omega)]; exact q.w1
  · have := same (2 + (t : Int)) (by omega)
    rw [← Int.add_assoc] at this
    rw [this]; exact q.wn t ht
theorem Dir.eFind (h : Dir gi gb img l f c E V) (tx : ByteArray) : eFind_M img l 1 gi gb 1 tx = tfind_M img l 1 gi gb 1 tx := by
  unfold eFind_M
  rw [h.mp.iget, if_pos rfl, if_pos rfl]
  cases tfind_M img l 1 gi gb 1 tx <;> rfl
theorem Dir.eRemove (h : Dir gi gb img l f c E V) (hl : l.length + 4 ≤ 96) {tx : ByteArray} {p : Nat} (hp : p < 12) {v : Int} (hf : tfind_M img l 1 gi gb 1 tx = some (tx, v, (p : Int), 0)) : ∃ m c', eRemove_M img l 1 gi gb 1 tx = some (0, m) ∧ Dir gi gb img m (upd f p 0) c' E V ∧ m.length ≤ l.length + 4 := by
  obtain ⟨m, c', e1, e2, e3⟩ := h.drop hl hp
  refine ⟨m, c', ?_, e2, e3⟩
  unfold eRemove_M
  rw [h.mp.iget, if_pos rfl, if_pos rfl]
  refine bind_of hf ?_
  rw [if_pos rfl]
  exact bind_of e1 rfl
theorem emay2_ok {xi : Int} (hv : 1 ≤ xi ∧ xi < gi) : emay2_M gi xi = some 0 := by
  unfold emay2_M
  rw [if_neg (by omega), if_neg (by omega)]
theorem Dir.eAdd_none (h : Dir gi gb img l f c E V) {xn : ByteArray} {xi : Int} (hv : 1 ≤ xi ∧ xi < gi) (hf : tfind_M img l 1 gi gb 1 xn = some (ByteArray.empty, 0, 0, 6)) {r : Int × List (Int × Int)} (ha : tadd_M img l 1 gi gb 1 xn xi = some r) : eAdd_M img l 1 gi gb 1 xn xi = some r := by
  unfold eAdd_M
  refine bind_of (emay2_ok hv) ?_
  rw [if_pos rfl, h.mp.iget, if_pos rfl, if_pos rfl]
  refine bind_of hf ?_
  rw [if_neg (by decide), if_pos rfl]
  exact bind_of ha rfl
def entL (f : Nat → Int) (E : Nat → ByteArray) (V : Nat → Int) : Nat → List TEn
  | 0 => []
  | k + 1 => if f k = 0 then entL f E V k else entL f E V k ++ [⟨E k, V k⟩]
theorem entL_len (f : Nat → Int) (E : Nat → ByteArray) (V : Nat → Int) : ∀ k, (entL f E V k).length = (listF f k).length
  | 0 => rfl
  | k + 1 => by
    unfold entL listF
    split
    · exact entL_len f E V k
    · simp only [List.length_append, List.length_cons, List.length_nil, entL_len f E V k]
theorem listF_le (f : Nat → Int) : ∀ k, (listF f k).length ≤ k
  | 0 => by simp [listF]
  | k + 1 => by
    have := listF_le f k
    unfold listF
    split
    · omega
    · simp only [List.length_append, List.length_cons, List.length_nil]; omega
theorem listF_full {f : Nat → Int} : ∀ {k : Nat}, (listF f k).length = k → ∀ j, j < k → f j ≠ 0
  | 0, _, j, hj => by omega
  | k + 1, h, j, hj => by
    have hle := listF_le f k
    unfold listF at h
    split at h
    · omega
    · rename_i h0
      simp only [List.length_append, List.length_cons, List.length_nil] at h
      by_cases e : j = k
      · rw [e]; exact h0
      · exact listF_full (k := k) (by omega) j (by omega)
theorem listF_all {f : Nat → Int} : ∀ {k : Nat}, (∀ j, j < k → f j ≠ 0) → (listF f k).length = k
  | 0, _ => rfl
  | k + 1, h => by
    unfold listF
    rw [if_neg (h k (by omega)), List.length_append, listF_all fun j hj => h j (by omega)]
    rfl
theorem listF_drop {f : Nat → Int} {p : Nat} : ∀ {k : Nat}, p < k → f p ≠ 0 → (listF (upd f p 0) k).length + 1 = (listF f k).length
  | 0, h, _ => by omega
  | k + 1, h, h0 => by
    unfold listF
    by_cases e : k = p
    · subst e
      rw [upd_at, if_pos rfl, if_neg h0, List.length_append, listF_congr fun j hj => upd_ne (by omega)]
      rfl
    · rw [upd_ne e]
      have ih := listF_drop (f := f) (p := p) (k := k) (by omega) h0
      split
      · exact ih
      · simp only [List.length_append, List.length_cons, List.length_nil]; omega
end
end Go.Proofs.YtmmclabkkigiaaaGreatDoor

set_option linter.unusedVariables false
set_option maxRecDepth 20000
set_option maxHeartbeats 4000000
namespace Go.Proofs.YtmmclabkkigiaaaGreatDoor
open Go Go.RowKit
set_option linter.unusedSimpArgs false
set_option linter.unusedVariables false

def entryfull_J1 (tx_ : ByteArray) (o_ : Int) (q33 : List Int) : Option (Bool) :=
 need (q33.length ≤ 17592186044415) <|
need ((strOfNums [97, ((97 + o_.tmod 12) % 256)]).size + (tx_.extract 0 ((mn (tx_.size : Int) 30).toNat)).size ≤ 9223372036854775807) <|
(eRemove_M q33 ([]) 1 (2 + 0 % 20) (2 + 59 % 60) 1 ((strOfNums [97, ((97 + o_.tmod 12) % 256)]) ++ (tx_.extract 0 ((mn (tx_.size : Int) 30).toNat)))).bind fun r49 =>
if r49.1 = 0 then (need ((ByteArray.mk #[98]).size + (tx_.extract 0 ((mn (tx_.size : Int) 30).toNat)).size ≤ 9223372036854775807) <|
(eAdd_M q33 r49.2 1 (2 + 0 % 20) (2 + 59 % 60) 1 ((ByteArray.mk #[98]) ++ (tx_.extract 0 ((mn (tx_.size : Int) 30).toNat))) 1).bind fun r57 =>
if r57.1 = 0 then ((eFind_M q33 r57.2 1 (2 + 0 % 20) (2 + 59 % 60) 1 ((strOfNums [97, ((97 + o_.tmod 12) % 256)]) ++ (tx_.extract 0 ((mn (tx_.size : Int) 30).toNat)))).bind fun r64 =>
(eAdd_M q33 r57.2 1 (2 + 0 % 20) (2 + 59 % 60) 1 ((strOfNums [97, ((97 + o_.tmod 12) % 256)]) ++ (tx_.extract 0 ((mn (tx_.size : Int) 30).toNat))) 1).bind fun r76 =>
(eList_M q33 r76.2 1 (2 + 0 % 20) (2 + 59 % 60) 1).bind fun r83 =>
if r64.2.2.2 = 6 then (if r76.1 = 16 then (if r83.2 = 0 then (if (r83.1.length : Int) = 12 then ((works15_M).bind fun r95 =>
some r95) else (some false)) else (some false)) else (some false)) else (some false)) else (some false)) else (some false)

def entryfull_J3 (k114 : ((List Int) × Int) → Option (Bool)) (q112 : List Int) (p113 : Int) (r136 : Int × List (Int × Int)) : Option (Bool) :=
 (some (wordsOf 1 (2 + 0 % 20) (2 + 59 % 60))).bind fun r151 =>
if (((vflat q112 r136.2).length) : Int) = r151 then (need (-9223372036854775808 ≤ (p113 + 1) ∧ (p113 + 1) ≤ 9223372036854775807) <|
k114 ((vflat q112 r136.2), (p113 + 1))) else (some false)

def entryfull_B0 (tx_ : ByteArray) (o_ : Int) (k114 : ((List Int) × Int) → Option (Bool)) (q112 : List Int) (p113 : Int) : Option (Bool) :=
 if p113 < 14 then (need (q112.length ≤ 17592186044415) <|
need ((strOfNums [97, ((97 + (p113 % 256)) % 256)]).size + (tx_.extract 0 ((mn (tx_.size : Int) 30).toNat)).size ≤ 9223372036854775807) <|
(eAdd_M q112 ([]) 1 (2 + 0 % 20) (2 + 59 % 60) 1 ((strOfNums [97, ((97 + (p113 % 256)) % 256)]) ++ (tx_.extract 0 ((mn (tx_.size : Int) 30).toNat))) 1).bind fun r136 =>
if ((r136.1 = 0) ↔ (p113 < 12)) then (if r136.1 = 0 then (entryfull_J3 k114 q112 p113 r136) else (if r136.1 = 16 then (entryfull_J3 k114 q112 p113 r136) else (some false))) else (some false)) else (entryfull_J1 tx_ o_ q112)

def entryfull_M (tx_ : ByteArray) (o_ : Int) : Option (Bool) :=
 need ((0 : Int) ≤ 0 ∧ (0 : Int) ≤ (mn (tx_.size : Int) 30) ∧ (mn (tx_.size : Int) 30) ≤ (tx_.size : Int)) <|
need ((ByteArray.mk #[97, 97]).size + (tx_.extract 0 ((mn (tx_.size : Int) 30).toNat)).size ≤ 9223372036854775807) <|
(emay_M ((ByteArray.mk #[97, 97]) ++ (tx_.extract 0 ((mn (tx_.size : Int) 30).toNat)))).bind fun r7 =>
if r7 = true then (need ((0 : Int) ≤ 0 ∧ (0 : Int) ≤ 255) <|
need ((0 : Int) ≤ 59 ∧ (59 : Int) ≤ 255) <|
iter (fun k_ s_ => entryfull_B0 tx_ o_ k_ s_.1 s_.2) FUEL ((fmtW 1 (2 + 0 % 20) (2 + 59 % 60)), 0)) else ((works15_M).bind fun r181 =>
some r181)

theorem entryfull_walk {tx_ : ByteArray} {o_ : Int}   (B : Nat) (w : World) (hB : w.heap.size = B) (hT : CellsAt (some ⟨1, 0, none⟩) tab8 w) (hm : entryfull_M tx_ o_ = some true) : Spec Tryz.prog 6 #[(.string tx_), (.int .u8 o_)] B w [] (fun v H' => v = .bool true ∧ H' = []) := by
 refine spec_Q Tryz.func6 rfl fun hs => ?_
 unfold entryfull_M at hm
 have hG : 1 < B := by rw [← hB]; exact lt_of_cells hT (v := .int .u8 0) (by kernel_rfl)
 refine W.sr fun K1 hK1 => ?_
 refine zE 1 (hK1 _ _ ?_)
 refine W.sr fun K2 hK2 => ?_
 refine zR 4 ?_
 obtain ⟨h3, hm⟩ := need_some hm
 refine ops_R (v := (.string (tx_.extract 0 ((mn (tx_.size : Int) 30).toNat)))) (runs_strSlice (b := tx_) (lo := none) (hi := (some (mn (tx_.size : Int) 30))) 0 ((mn (tx_.size : Int) 30).toNat) (.inr ⟨rfl, rfl⟩) (.inl (congrArg some (nat_of (Int.le_trans h3.1 h3.2.1)))) (by omega) (by omega) (by kernel_rfl)) ?_
 refine zE 1 (hK2 _ _ ?_)
 refine W.seq fun K4 hK4 => ?_
 refine W.sr fun K5 hK5 => ?_
 refine zR 1 ?_
 obtain ⟨h6, hm⟩ := need_some hm
 refine ops_R (v := (.string ((ByteArray.mk #[97, 97]) ++ (tx_.extract 0 ((mn (tx_.size : Int) 30).toNat))))) (runs_strAdd (a := (ByteArray.mk #[97, 97])) (b := (tx_.extract 0 ((mn (tx_.size : Int) 30).toNat))) h6 (by kernel_rfl)) ?_
 obtain ⟨r7, h8, hm⟩ := bind_some hm
 refine zC00 hs (emay_walk (tx_ := ((ByteArray.mk #[97, 97]) ++ (tx_.extract 0 ((mn (tx_.size : Int) 30).toNat)))) (hm := h8) B _) fun w9 hs11 => ?_
 refine zE 1 (hK5 _ _ ?_)
 refine W.cond (!r7) (by kernel_rfl) (fun h12 => ?_) (fun h12 => ?_)
 rotate_left
 ·
  have h12p : r7 = true := (bnot_false h12)
  replace hm := ite_yes hm h12p
  refine W.skip ?_
  refine hK4 _ _ ?_
  refine W.sr fun K13 hK13 => ?_
  obtain ⟨h14, hm⟩ := need_some hm
  obtain ⟨h15, hm⟩ := need_some hm
  refine zC00 hs11 (small_spec (x_ := 0) (y_ := 59) (hx := h14) (hy := h15) B _) fun w16 hs18 => ?_
  refine zN [(.int .i64 0), (.int .i64 0), (.int .i64 0)] 31 hs18 fun b21 w19 hs20 => ?_
  refine ops_store (off := 0) (cs := [(.int .i64 0), (.int .i64 0), (.int .i64 0)]) (vs := [(.int .i64 1), (.int .i64 (2 + 0 % 20)), (.int .i64 (2 + 59 % 60))]) hs20 (by kernel_rfl) (by simp) rfl (fun w22 hs23 => ?_)
  have hs24 : St B w [] w22 [blk b21 (.cells [(.int .i64 1), (.int .i64 (2 + 0 % 20)), (.int .i64 (2 + 59 % 60))].toArray 31 (0, 0))] := hs23
  refine zD (hK13 _ _ ?_)
  refine W.sr fun K25 hK25 => ?_
  refine ops_R (runs_loadAgg (ad := ⟨b21, 0, none⟩) (cs := [(.int .i64 1), (.int .i64 (2 + 0 % 20)), (.int .i64 (2 + 59 % 60))]) (by kernel_rfl) (cells_sub (hs24.heapAt 0 rfl) rfl)) ?_
  refine ops_call0 hs24 (by kernel_rfl) (format_spec (gw := 1) (gi := (2 + 0 % 20)) (gb := (2 + 59 % 60)) B _) ?_
  rintro _ _ w28 ⟨a26, c27, rfl, rfl⟩ hs29
  have hs30 := St.ap1 hs29
  refine zE 1 (hK25 _ _ ?_)
  refine W.seq_join (fun s_ w_ => ∃ (q33 : List Int) (m31 : Option Addr) (m32 : Nat), (∃ us, s_ = slots 134 [(0, (.string (tx_.extract 0 ((mn (tx_.size : Int) 30).toNat)))), (1, (.int .u8 o_)), (5, (.pointer (some ⟨b21, 0, none⟩))), (6, (.slice m31 q33.length m32))] us) ∧ St B w [] w_ [blk b21 (.cells [(.int .i64 1), (.int .i64 (2 + 0 % 20)), (.int .i64 (2 + 59 % 60))].toArray 31 (0, 0)), kU64.row m31 m32 q33] ∧ entryfull_J1 tx_ o_ q33 = some true) ?_ ?_
  ·
   rintro _ w34 ⟨q33, m31, m32, ⟨us, rfl⟩, hs35, hm⟩
   unfold entryfull_J1 at hm
   refine W.sr fun K36 hK36 => ?_
   refine zR 1 ?_
   obtain ⟨h38, hm⟩ := need_some hm
   refine ops_call0 hs35 (by kernel_rfl) (new_spec (hc := (St.kcells kU64 hs35 1 rfl)) (hn := (St.capnil kU64 hs35 1 rfl)) (hsz := h38) B _) ?_
   rintro _ _ w39 ⟨b37, rfl, rfl⟩ hs40
   have hs41 := St.ap1 hs40
   refine zE 1 (hK36 _ _ ?_)
   refine W.sr fun K42 hK42 => ?_
   refine zR 2 ?_
   refine ops_val (v := .int .u8 (IntKind.u8.wrap (97 + o_.tmod 12))) (v' := .int .u8 ((97 + o_.tmod 12) % 256)) (by kernel_rfl) (congrArg (Value.int .u8) (wrap_u8_mod _)) ?_
   refine ops_new (fun b => .slice (some ⟨b, 0, none⟩) 2 2) (.cells [(.int .u8 97), (.int .u8 ((97 + o_.tmod 12) % 256))].toArray 5 (0, 0)) hs41 (by kernel_rfl) (fun b45 w43 hs44 => ?_)
   refine ops_R (runs_bytesStr (a := (some ⟨b45, 0, none⟩)) (n := 2) (c := 2) (xs := [97, ((97 + o_.tmod 12) % 256)]) (cells_blk (hs44.heapAt 0 rfl)) rfl (by kernel_rfl)) ?_
   refine zR 1 ?_
   obtain ⟨h46, hm⟩ := need_some hm
   refine ops_R (v := (.string ((strOfNums [97, ((97 + o_.tmod 12) % 256)]) ++ (tx_.extract 0 ((mn (tx_.size : Int) 30).toNat))))) (runs_strAdd (a := (strOfNums [97, ((97 + o_.tmod 12) % 256)])) (b := (tx_.extract 0 ((mn (tx_.size : Int) 30).toNat))) h46 (by kernel_rfl)) ?_
   refine zE 1 (hK42 _ _ ?_)
   refine W.seq fun K47 hK47 => ?_
   refine W.sr fun K48 hK48 => ?_
   refine zR 4 ?_
   refine ops_R (runs_loadAgg (ad := ⟨b21, 0, none⟩) (cs := [(.int .i64 1), (.int .i64 (2 + 0 % 20)), (.int .i64 (2 + 59 % 60))]) (by kernel_rfl) (cells_sub (hs44.heapAt 2 rfl) rfl)) ?_
   refine zR 1 ?_
   obtain ⟨r49, h50, hm⟩ := bind_some hm
   have hs51 := St.f1 hs44
   refine zC11 hs51 (eRemove_walk (vb := b37) (gw := 1) (gi := (2 + 0 % 20)) (gb := (2 + 59 % 60)) (n_ := 1) (tx_ := ((strOfNums [97, ((97 + o_.tmod 12) % 256)]) ++ (tx_.extract 0 ((mn (tx_.size : Int) 30).toNat)))) (img := q33) (l := []) (hm := h50) B _) fun w52 hs54 => ?_
   refine zR 3 ?_
   rcases Bool.eq_false_or_eq_true (!decide (r49.1 = 0)) with h55 | h55
   rotate_left
   ·
    have h55p : r49.1 = 0 := of_decide_eq_true (bnot_false h55)
    replace hm := ite_yes hm h55p
    refine zS 88 h55 ?_
    refine zS 86 h55 ?_
    refine zS 87 h55 ?_
    refine zR 1 ?_
    refine ops_R (runs_loadAgg (ad := ⟨b21, 0, none⟩) (cs := [(.int .i64 1), (.int .i64 (2 + 0 % 20)), (.int .i64 (2 + 59 % 60))]) (by kernel_rfl) (cells_sub (hs54.heapAt 2 rfl) rfl)) ?_
    refine zR 1 ?_
    obtain ⟨h56, hm⟩ := need_some hm
    refine ops_R (v := (.string ((ByteArray.mk #[98]) ++ (tx_.extract 0 ((mn (tx_.size : Int) 30).toNat))))) (runs_strAdd (a := (ByteArray.mk #[98])) (b := (tx_.extract 0 ((mn (tx_.size : Int) 30).toNat))) h56 (by kernel_rfl)) ?_
    refine zR 1 ?_
    obtain ⟨r57, h58, hm⟩ := bind_some hm
    refine zC11 hs54 (eAdd_walk (vb := b37) (hG := hG) (hT := (hs54.oldCells hT)) (gw := 1) (gi := (2 + 0 % 20)) (gb := (2 + 59 % 60)) (n_ := 1) (xn_ := ((ByteArray.mk #[98]) ++ (tx_.extract 0 ((mn (tx_.size : Int) 30).toNat)))) (xi_ := 1) (img := q33) (l := r49.2) (hm := h58) B _) fun w59 hs61 => ?_
    refine zE 2 (hK48 _ _ ?_)
    refine W.cond (!decide (r57.1 = 0)) (by kernel_rfl) (fun h62 => ?_) (fun h62 => ?_)
    rotate_left
    ·
     have h62p : r57.1 = 0 := of_decide_eq_true (bnot_false h62)
     replace hm := ite_yes hm h62p
     refine W.skip ?_
     refine hK47 _ _ ?_
     refine W.sr fun K63 hK63 => ?_
     refine zR 1 ?_
     refine ops_R (runs_loadAgg (ad := ⟨b21, 0, none⟩) (cs := [(.int .i64 1), (.int .i64 (2 + 0 % 20)), (.int .i64 (2 + 59 % 60))]) (by kernel_rfl) (cells_sub (hs61.heapAt 2 rfl) rfl)) ?_
     refine zR 1 ?_
     obtain ⟨r64, h65, hm⟩ := bind_some hm
     refine zC11 hs61 (eFind_walk (vb := b37) (gw := 1) (gi := (2 + 0 % 20)) (gb := (2 + 59 % 60)) (n_ := 1) (tx_ := ((strOfNums [97, ((97 + o_.tmod 12) % 256)]) ++ (tx_.extract 0 ((mn (tx_.size : Int) 30).toNat)))) (img := q33) (l := r57.2) (hm := h65) B _) fun w66 hs68 => ?_
     refine zR 4 ?_
     refine zN [(.string ByteArray.empty), (.int .i64 0)] 33 hs68 fun b71 w69 hs70 => ?_
     refine ops_store (off := 0) (cs := [(.string ByteArray.empty), (.int .i64 0)]) (vs := [(.string r64.1), (.int .i64 r64.2.1)]) hs70 (by kernel_rfl) (by simp) rfl (fun w72 hs73 => ?_)
     have hs74 : St B w [] w72 [blk b71 (.cells [(.string r64.1), (.int .i64 r64.2.1)].toArray 33 (0, 0)), viewA (ptr b37) q33 r57.2, blk b45 (.cells [(.int .u8 97), (.int .u8 ((97 + o_.tmod 12) % 256))].toArray 5 (0, 0)), blk b21 (.cells [(.int .i64 1), (.int .i64 (2 + 0 % 20)), (.int .i64 (2 + 59 % 60))].toArray 31 (0, 0)), kU64.row m31 m32 q33] := hs73
     refine zE 2 (hK63 _ _ ?_)
     refine W.sr fun K75 hK75 => ?_
     refine zR 1 ?_
     refine ops_R (runs_loadAgg (ad := ⟨b21, 0, none⟩) (cs := [(.int .i64 1), (.int .i64 (2 + 0 % 20)), (.int .i64 (2 + 59 % 60))]) (by kernel_rfl) (cells_sub (hs74.heapAt 3 rfl) rfl)) ?_
     refine zR 2 ?_
     obtain ⟨r76, h77, hm⟩ := bind_some hm
     have hs78 := St.f1 hs74
     refine zC11 hs78 (eAdd_walk (vb := b37) (hG := hG) (hT := (hs74.oldCells hT)) (gw := 1) (gi := (2 + 0 % 20)) (gb := (2 + 59 % 60)) (n_ := 1) (xn_ := ((strOfNums [97, ((97 + o_.tmod 12) % 256)]) ++ (tx_.extract 0 ((mn (tx_.size : Int) 30).toNat)))) (xi_ := 1) (img := q33) (l := r57.2) (hm := h77) B _) fun w79 hs81 => ?_
     refine zE 1 (hK75 _ _ ?_)
     refine W.sr fun K82 hK82 => ?_
     refine zR 1 ?_
     refine ops_R (runs_loadAgg (ad := ⟨b21, 0, none⟩) (cs := [(.int .i64 1), (.int .i64 (2 + 0 % 20)), (.int .i64 (2 + 59 % 60))]) (by kernel_rfl) (cells_sub (hs81.heapAt 3 rfl) rfl)) ?_
     obtain ⟨r83, h84, hm⟩ := bind_some hm
     refine ops_call1 hs81 (by kernel_rfl) (eList_walk (vb := b37) (gw := 1) (gi := (2 + 0 % 20)) (gb := (2 + 59 % 60)) (n_ := 1) (img := q33) (l := r76.2) (hm := h84) B _) ?_
     rintro _ _ w87 ⟨a85, c86, rfl, rfl⟩ hs88
     have hs89 := St.ap2 hs88
     refine zE 5 (hK82 _ _ ?_)
     refine W.sr fun K90 hK90 => ?_
     refine zR 3 ?_
     rcases Bool.eq_false_or_eq_true (decide (r64.2.2.2 = 6)) with h91 | h91
     ·
      obtain ⟨h91p, hm⟩ := iY hm h91
      refine zS 118 h91 ?_
      refine zS 117 h91 ?_
      refine zR 4 ?_
      rcases Bool.eq_false_or_eq_true (decide (r76.1 = 16)) with h92 | h92
      ·
       obtain ⟨h92p, hm⟩ := iY hm h92
       refine zS 122 h92 ?_
       refine zS 120 h92 ?_
       refine zS 121 h92 ?_
       refine zR 4 ?_
       rcases Bool.eq_false_or_eq_true (decide (r83.2 = 0)) with h93 | h93
       ·
        obtain ⟨h93p, hm⟩ := iY hm h93
        refine zS 126 h93 ?_
        refine zS 124 h93 ?_
        refine zS 125 h93 ?_
        refine zR 5 ?_
        rcases Bool.eq_false_or_eq_true (decide ((r83.1.length : Int) = 12)) with h94 | h94
        ·
         obtain ⟨h94p, hm⟩ := iY hm h94
         refine zS 131 h94 ?_
         refine zS 129 h94 ?_
         refine zS 130 h94 ?_
         obtain ⟨r95, h96, hm⟩ := bind_some hm
         refine zC00 hs89 (works15_walk (hG := hG) (hT := (hs89.oldCells hT)) (hm := h96) B _) fun w97 hs99 => ?_
         refine zE 2 (hK90 _ _ ?_)
         refine W.ret ?_
         have hs100 := St.tk0 hs99
         refine ret_of (.bool r95) (by kernel_rfl) ⟨_, ⟨congrArg Value.bool (some_inj hm), rfl⟩, hs100⟩
        ·
         obtain ⟨h94p, hm⟩ := iN hm h94
         refine zS 131 h94 ?_
         refine zS 129 h94 ?_
         refine zS 130 h94 ?_
         refine zE 3 (hK90 _ _ ?_)
         refine W.ret ?_
         have hs101 := St.tk0 hs89
         refine ret_of (.bool false) (by kernel_rfl) ⟨_, ⟨congrArg Value.bool (some_inj hm), rfl⟩, hs101⟩
       ·
        obtain ⟨h93p, hm⟩ := iN hm h93
        refine zS 126 h93 ?_
        refine zS 124 h93 ?_
        refine zS 125 h93 ?_
        refine zE 8 (hK90 _ _ ?_)
        refine W.ret ?_
        have hs102 := St.tk0 hs89
        refine ret_of (.bool false) (by kernel_rfl) ⟨_, ⟨congrArg Value.bool (some_inj hm), rfl⟩, hs102⟩
      ·
       obtain ⟨h92p, hm⟩ := iN hm h92
       refine zS 122 h92 ?_
       refine zS 120 h92 ?_
       refine zS 121 h92 ?_
       refine zE 12 (hK90 _ _ ?_)
       refine W.ret ?_
       have hs103 := St.tk0 hs89
       refine ret_of (.bool false) (by kernel_rfl) ⟨_, ⟨congrArg Value.bool (some_inj hm), rfl⟩, hs103⟩
     ·
      obtain ⟨h91p, hm⟩ := iN hm h91
      refine zS 118 h91 ?_
      refine zS 117 h91 ?_
      refine zE 16 (hK90 _ _ ?_)
      refine W.ret ?_
      have hs104 := St.tk0 hs89
      refine ret_of (.bool false) (by kernel_rfl) ⟨_, ⟨congrArg Value.bool (some_inj hm), rfl⟩, hs104⟩
    ·
     have h62p : ¬ (r57.1 = 0) := of_decide_eq_false (bnot_true h62)
     replace hm := ite_no hm h62p
     refine W.sr fun K105 hK105 => ?_
     refine zE 1 (hK105 _ _ ?_)
     refine W.ret (ret_seq ?_)
     have hs106 := St.tk0 hs61
     refine ret_of (.bool false) (by kernel_rfl) ⟨_, ⟨congrArg Value.bool (some_inj hm), rfl⟩, hs106⟩
   ·
    have h55p : ¬ (r49.1 = 0) := of_decide_eq_false (bnot_true h55)
    replace hm := ite_no hm h55p
    refine zS 88 h55 ?_
    refine zS 86 h55 ?_
    refine zS 87 h55 ?_
    refine zE 8 (hK48 _ _ ?_)
    refine W.cond_true true (by kernel_rfl) rfl ?_
    refine W.sr fun K107 hK107 => ?_
    refine zE 1 (hK107 _ _ ?_)
    refine W.ret (ret_seq ?_)
    have hs108 := St.tk0 hs54
    refine ret_of (.bool false) (by kernel_rfl) ⟨_, ⟨congrArg Value.bool (some_inj hm), rfl⟩, hs108⟩
  ·
   refine W.sr fun K109 hK109 => ?_
   refine zE 1 (hK109 _ _ ?_)
   refine W.block ?_
   have hs118 := St.f1 hs30
   refine W.loop_iter (G := (List Int) × Int × (Option Addr) × Nat) (σ := (List Int) × Int) (fun | (q112, p113, m110, m111) => (q112, p113)) (fun | (q112, p113, m110, m111), s_, w_ => (∃ us, s_ = slots 134 [(0, (.string (tx_.extract 0 ((mn (tx_.size : Int) 30).toNat)))), (1, (.int .u8 o_)), (5, (.pointer (some ⟨b21, 0, none⟩))), (6, (.slice m110 q112.length m111)), (7, (.int .i64 p113))] us) ∧ St B w [] w_ [blk b21 (.cells [(.int .i64 1), (.int .i64 (2 + 0 % 20)), (.int .i64 (2 + 59 % 60))].toArray 31 (0, 0)), kU64.row m110 m111 q112]) ((fmtW 1 (2 + 0 % 20) (2 + 59 % 60)), 0, a26, c27) ⟨slots_intro _ (by kernel_rfl), hs118⟩ hm ?_
   rintro k114 ih115 ⟨q112, p113, m110, m111⟩ _ w116 ⟨⟨us, rfl⟩, hs117⟩ hm
   replace hm : entryfull_B0 tx_ o_ k114 q112 p113 = some true := hm
   unfold entryfull_B0 at hm
   refine W.seq fun K119 hK119 => ?_
   refine W.sr fun K120 hK120 => ?_
   refine zE 2 (hK120 _ _ ?_)
   refine W.cond (decide (p113 < 14)) (by kernel_rfl) (fun h121 => ?_) (fun h121 => ?_)
   ·
    obtain ⟨h121p, hm⟩ := iY hm h121
    refine W.skip ?_
    refine hK119 _ _ ?_
    refine W.seq fun K122 hK122 => ?_
    refine W.block ?_
    refine W.sr fun K123 hK123 => ?_
    refine zR 1 ?_
    obtain ⟨h125, hm⟩ := need_some hm
    refine ops_call0 hs117 (by kernel_rfl) (new_spec (hc := (St.kcells kU64 hs117 1 rfl)) (hn := (St.capnil kU64 hs117 1 rfl)) (hsz := h125) B _) ?_
    rintro _ _ w126 ⟨b124, rfl, rfl⟩ hs127
    have hs128 := St.ap1 hs127
    refine zE 1 (hK123 _ _ ?_)
    refine W.seq fun K129 hK129 => ?_
    refine W.sr fun K130 hK130 => ?_
    refine zE 2 (hK130 _ _ ?_)
    refine W.cond_false false (by kernel_rfl) rfl ?_
    refine W.skip ?_
    refine hK129 _ _ ?_
    refine W.sr fun K131 hK131 => ?_
    refine zR 1 ?_
    refine ops_R (runs_loadAgg (ad := ⟨b21, 0, none⟩) (cs := [(.int .i64 1), (.int .i64 (2 + 0 % 20)), (.int .i64 (2 + 59 % 60))]) (by kernel_rfl) (cells_sub (hs128.heapAt 1 rfl) rfl)) ?_
    refine zR 1 ?_
    refine ops_val (v := .int .u8 (IntKind.u8.wrap p113)) (v' := .int .u8 (p113 % 256)) (by kernel_rfl) (congrArg (Value.int .u8) (wrap_u8_mod _)) ?_
    refine ops_val (v := .int .u8 (IntKind.u8.wrap (97 + (p113 % 256)))) (v' := .int .u8 ((97 + (p113 % 256)) % 256)) (by kernel_rfl) (congrArg (Value.int .u8) (wrap_u8_mod _)) ?_
    refine ops_new (fun b => .slice (some ⟨b, 0, none⟩) 2 2) (.cells [(.int .u8 97), (.int .u8 ((97 + (p113 % 256)) % 256))].toArray 5 (0, 0)) hs128 (by kernel_rfl) (fun b134 w132 hs133 => ?_)
    refine ops_R (runs_bytesStr (a := (some ⟨b134, 0, none⟩)) (n := 2) (c := 2) (xs := [97, ((97 + (p113 % 256)) % 256)]) (cells_blk (hs133.heapAt 0 rfl)) rfl (by kernel_rfl)) ?_
    refine zR 1 ?_
    obtain ⟨h135, hm⟩ := need_some hm
    refine ops_R (v := (.string ((strOfNums [97, ((97 + (p113 % 256)) % 256)]) ++ (tx_.extract 0 ((mn (tx_.size : Int) 30).toNat))))) (runs_strAdd (a := (strOfNums [97, ((97 + (p113 % 256)) % 256)])) (b := (tx_.extract 0 ((mn (tx_.size : Int) 30).toNat))) h135 (by kernel_rfl)) ?_
    refine zR 1 ?_
    obtain ⟨r136, h137, hm⟩ := bind_some hm
    have hs138 := St.f1 hs133
    refine zC11 hs138 (eAdd_walk (vb := b124) (hG := hG) (hT := (hs133.oldCells hT)) (gw := 1) (gi := (2 + 0 % 20)) (gb := (2 + 59 % 60)) (n_ := 1) (xn_ := ((strOfNums [97, ((97 + (p113 % 256)) % 256)]) ++ (tx_.extract 0 ((mn (tx_.size : Int) 30).toNat)))) (xi_ := 1) (img := q112) (l := []) (hm := h137) B _) fun w139 hs141 => ?_
    refine zE 1 (hK131 _ _ ?_)
    refine W.seq_join (fun s_ w_ => (∃ us, s_ = slots 134 [(0, (.string (tx_.extract 0 ((mn (tx_.size : Int) 30).toNat)))), (1, (.int .u8 o_)), (5, (.pointer (some ⟨b21, 0, none⟩))), (7, (.int .i64 p113)), (8, (.pointer (some ⟨b124, 0, none⟩)))] us) ∧ St B w [] w_ [blk b21 (.cells [(.int .i64 1), (.int .i64 (2 + 0 % 20)), (.int .i64 (2 + 59 % 60))].toArray 31 (0, 0)), viewA (ptr b124) q112 r136.2, blk b134 (.cells [(.int .u8 97), (.int .u8 ((97 + (p113 % 256)) % 256))].toArray 5 (0, 0)), kU64.row m110 m111 q112] ∧ entryfull_J3 k114 q112 p113 r136 = some true) ?_ ?_
    ·
     rintro _ w142 ⟨⟨us, rfl⟩, hs143, hm⟩
     unfold entryfull_J3 at hm
     refine W.sr fun K144 hK144 => ?_
     refine zR 1 ?_
     refine ops_call0 hs143 (by kernel_rfl) (flat_spec (hv := (hs143.entAt 1 rfl viewA_at)) B _) ?_
     rintro _ _ w147 ⟨a145, c146, rfl, rfl⟩ hs148
     have hs149 := St.ap1 hs148
     refine zE 1 (hK144 _ _ ?_)
     refine W.sr fun K150 hK150 => ?_
     refine zR 2 ?_
     refine ops_R (runs_loadAgg (ad := ⟨b21, 0, none⟩) (cs := [(.int .i64 1), (.int .i64 (2 + 0 % 20)), (.int .i64 (2 + 59 % 60))]) (by kernel_rfl) (cells_sub (hs149.heapAt 1 rfl) rfl)) ?_
     obtain ⟨r151, h152, hm⟩ := bind_some hm
     replace h152 := some_inj h152
     refine ops_call0 hs149 (by kernel_rfl) (lwords_spec (gw := 1) (gi := (2 + 0 % 20)) (gb := (2 + 59 % 60)) B _) ?_
     rintro _ _ w153 ⟨hv155, hH156⟩ hs154
     rw [h152] at hv155
     try rw [h152] at hH156
     subst hv155 hH156
     have hs157 := St.ap0 hs154
     refine zE 1 (hK150 _ _ ?_)
     refine W.cond (!decide ((((vflat q112 r136.2).length) : Int) = r151)) (by kernel_rfl) (fun h158 => ?_) (fun h158 => ?_)
     rotate_left
     ·
      have h158p : (((vflat q112 r136.2).length) : Int) = r151 := of_decide_eq_true (bnot_false h158)
      replace hm := ite_yes hm h158p
      refine W.skip ?_
      refine normal_block ?_
      refine hK122 _ _ ?_
      refine W.region ?_
      refine zR 1 ?_
      obtain ⟨h159, hm⟩ := need_some hm
      refine zI _ (wrap_i64 h159.1 h159.2) ?_
      refine zE 1 ?_
      have hs160 := St.f1 hs157
      have hs161 := St.tk2 hs160
      refine loopAt_next ?_
      exact ih115 ((vflat q112 r136.2), (p113 + 1), a145, c146) _ _ ⟨slots_intro _ (by kernel_rfl), hs161⟩ hm
     ·
      have h158p : ¬ ((((vflat q112 r136.2).length) : Int) = r151) := of_decide_eq_false (bnot_true h158)
      replace hm := ite_no hm h158p
      refine W.sr fun K162 hK162 => ?_
      refine zE 1 (hK162 _ _ ?_)
      refine W.ret (ret_block (ret_seq (ret_seq (ret_block (ret_seq ?_)))))
      have hs163 := St.tk0 hs157
      refine ret_of (.bool false) (by kernel_rfl) ⟨_, ⟨congrArg Value.bool (some_inj hm), rfl⟩, hs163⟩
    ·
     refine W.sr fun K164 hK164 => ?_
     refine zR 6 ?_
     rcases Bool.eq_false_or_eq_true (!((decide (r136.1 = 0)) == (decide (p113 < 12)))) with h165 | h165
     rotate_left
     ·
      have h165p : ((r136.1 = 0) ↔ (p113 < 12)) := beq_yes decide_eq_true_iff decide_eq_true_iff (bnot_false h165)
      replace hm := ite_yes hm h165p
      refine zS 55 h165 ?_
      refine zS 54 h165 ?_
      refine zR 3 ?_
      rcases Bool.eq_false_or_eq_true (!decide (r136.1 = 0)) with h166 | h166
      rotate_left
      ·
       have h166p : r136.1 = 0 := of_decide_eq_true (bnot_false h166)
       replace hm := ite_yes hm h166p
       refine zS 58 h166 ?_
       refine zS 57 h166 ?_
       refine zE 4 (hK164 _ _ ?_)
       refine W.cond_false false (by kernel_rfl) rfl ?_
       refine W.skip ?_
       have hs167 := St.f3 hs141
       have hs168 := St.f2 hs167
       have hs169 := St.f2 hs168
       have hs170 := St.f3 hs169
       exact ⟨slots_intro _ (by kernel_rfl), hs170, hm⟩
      ·
       have h166p : ¬ (r136.1 = 0) := of_decide_eq_false (bnot_true h166)
       replace hm := ite_no hm h166p
       refine zS 58 h166 ?_
       refine zS 57 h166 ?_
       refine zE 4 (hK164 _ _ ?_)
       refine W.cond (!decide (r136.1 = 16)) (by kernel_rfl) (fun h171 => ?_) (fun h171 => ?_)
       rotate_left
       ·
        have h171p : r136.1 = 16 := of_decide_eq_true (bnot_false h171)
        replace hm := ite_yes hm h171p
        refine W.skip ?_
        have hs172 := St.f3 hs141
        have hs173 := St.f2 hs172
        have hs174 := St.f2 hs173
        have hs175 := St.f3 hs174
        exact ⟨slots_intro _ (by kernel_rfl), hs175, hm⟩
       ·
        have h171p : ¬ (r136.1 = 16) := of_decide_eq_false (bnot_true h171)
        replace hm := ite_no hm h171p
        refine W.sr fun K176 hK176 => ?_
        refine zE 1 (hK176 _ _ ?_)
        refine W.ret (ret_seq (ret_block (ret_seq (ret_seq (ret_block (ret_seq ?_))))))
        have hs177 := St.tk0 hs141
        refine ret_of (.bool false) (by kernel_rfl) ⟨_, ⟨congrArg Value.bool (some_inj hm), rfl⟩, hs177⟩
     ·
      have h165p : ¬ ((r136.1 = 0) ↔ (p113 < 12)) := beq_no decide_eq_true_iff decide_eq_true_iff (bnot_true h165)
      replace hm := ite_no hm h165p
      refine zS 55 h165 ?_
      refine zS 54 h165 ?_
      refine zE 7 (hK164 _ _ ?_)
      refine W.cond_true true (by kernel_rfl) rfl ?_
      refine W.sr fun K178 hK178 => ?_
      refine zE 1 (hK178 _ _ ?_)
      refine W.ret (ret_seq (ret_block (ret_seq (ret_seq (ret_block (ret_seq ?_))))))
      have hs179 := St.tk0 hs141
      refine ret_of (.bool false) (by kernel_rfl) ⟨_, ⟨congrArg Value.bool (some_inj hm), rfl⟩, hs179⟩
   ·
    obtain ⟨h121p, hm⟩ := iN hm h121
    refine W.exit (exit_seq (exit_seq (exit_here ?_)))
    exact ⟨q112, m110, m111, slots_intro _ (by kernel_rfl), hs117, hm⟩
 ·
  have h12p : ¬ (r7 = true) := ne_true_of_eq_false (bnot_true h12)
  replace hm := ite_no hm h12p
  refine W.sr fun K180 hK180 => ?_
  obtain ⟨r181, h182, hm⟩ := bind_some hm
  refine zC00 hs11 (works15_walk (hG := hG) (hT := (hs11.oldCells hT)) (hm := h182) B _) fun w183 hs185 => ?_
  refine zE 1 (hK180 _ _ ?_)
  refine W.ret (ret_seq ?_)
  refine ret_of (.bool r181) (by kernel_rfl) ⟨_, ⟨congrArg Value.bool (some_inj hm), rfl⟩, hs185⟩

end Go.Proofs.YtmmclabkkigiaaaGreatDoor

namespace Go.Proofs.YtmmclabkkigiaaaGreatDoor
open Go Go.RowKit
set_option linter.unusedVariables false
set_option linter.unusedSimpArgs false
section
variable {gi gb : Int} {img : List Int} {l : List (Int × Int)} {f : Nat → Int} {c : Int} {E : Nat → ByteArray} {V : Nat → Int}
theorem Dir.eList (h : Dir gi gb img l f c E V) : eList_M img l 1 gi gb 1 = some (entL f E V 12, 0) := by
  suffices H : Ok (fun x => x = (entL f E V 12, 0)) (eList_M img l 1 gi gb 1) by
    obtain ⟨x, hx, rfl⟩ := H
    exact hx
  unfold eList_M
  rw [h.mp.iget]
  refine Ok.yes rfl (Ok.yes rfl (Ok.need (by omega) ?_))
  refine rounds_ok (fun k (q : List TEn) => q = entL f E V k) 12 (fun k c2 q hk hq ih => ?_) (fun q hq => ?_) _ _ _ (by omega) rfl
  · unfold eList_R46
    refine Ok.name fun z hz => ?_
    rw [show z = (k : Int) by omega]
    refine Ok.got15 (h.entry hk) ?_
    have hlen := entL_len f E V k
    have hle := listF_le f k
    by_cases h0 : f k = 0
    · rw [if_pos h0]
      refine Ok.yes rfl (Ok.yes ⟨rfl, rfl⟩ (ih _ ?_))
      unfold entL
      rw [if_pos h0]
      exact hq
    · rw [if_neg h0]
      have hm := mayB_iff.1 (h.ent k hk h0).may
      refine Ok.yes rfl (Ok.no (fun q => ?_) (Ok.need (by rw [hq]; simp only [List.length_cons, List.length_nil]; omega) (ih _ ?_)))
      · have e : E k = ByteArray.empty := q.1
        rw [e] at hm
        simp at hm
      · unfold entL
        rw [if_neg h0, hq]
  · unfold eList_D46
    exact Ok.some (by rw [hq])
end
def nmF (t : ByteArray) (x : Int) : ByteArray := strOfNums [97, x] ++ t
theorem nm_size (t : ByteArray) (x : Int) : (nmF t x).size = 2 + t.size := by
  unfold nmF
  rw [ByteArray.size_append]
  rfl
theorem nmF_nums (t : ByteArray) {x : Int} (hx : 0 ≤ x ∧ x ≤ 255) : strNums (nmF t x) = [97, x] ++ strNums t := by
  have e : strNums (strOfNums [97, x]) = [97, x] := by
    unfold strNums strOfNums
    simp only [List.map_cons, List.map_nil, List.toList_toArray]
    have h1 : ((UInt8.ofNat (97 : Int).toNat).toNat : Int) = 97 := rfl
    have h2 : ((UInt8.ofNat x.toNat).toNat : Int) = x := by
      rw [UInt8.toNat_ofNat_of_lt' (show x.toNat < 256 by omega)]
      omega
    rw [h1, h2]
  have ea : strNums (strOfNums [97, x] ++ t) = strNums (strOfNums [97, x]) ++ strNums t := by
    unfold strNums
    simp [ByteArray.data_append]
  unfold nmF
  rw [ea, e]
theorem nm_inj {t : ByteArray} {x y : Int} (hx : 0 ≤ x ∧ x ≤ 255) (hy : 0 ≤ y ∧ y ≤ 255) (h : nmF t x = nmF t y) : x = y := by
  have e := nmF_nums t hx
  rw [h, nmF_nums t hy] at e
  have := congrArg (fun l : List Int => l.getD 1 0) e
  simpa using this.symm
theorem nm_may {t : ByteArray} {x y : Int} (hx : 1 ≤ x ∧ x ≤ 255) (hy : 1 ≤ y ∧ y ≤ 255) (hx2 : x ≠ 47) (h : mayB (nmF t y) = true) : mayB (nmF t x) = true := by
  have h1 := mayB_iff.1 h
  rw [nm_size] at h1
  have hnx := nmF_nums t (x := x) (by omega)
  have hny := nmF_nums t (x := y) (by omega)
  refine mayB_iff.2 ⟨by rw [nm_size]; omega, by rw [nm_size]; omega, ?_, fun e => ?_, fun e => ?_⟩
  · cases hb : badB (nmF t x) with
    | false => rfl
    | true =>
      obtain ⟨j, hj, hc⟩ := badB_iff.1 hb
      rw [nm_size] at hj
      rw [hnx] at hc
      have : badB (nmF t y) = true := badB_iff.2 ⟨j, by rw [nm_size]; exact hj, by
        rw [hny]
        match j with
        | 0 => exact hc
        | 1 => simp only [List.cons_append, List.nil_append, List.getD_cons_succ, List.getD_cons_zero] at hc; omega
        | j + 2 => exact hc⟩
      rw [h1.2.2.1] at this
      cases this
  · have := congrArg ByteArray.size e
    rw [nm_size] at this
    have e1 : (ByteArray.mk #[46]).size = 1 := rfl
    omega
  · have := congrArg strNums e
    rw [hnx] at this
    have := congrArg (fun l : List Int => l.getD 0 0) this
    have e2 : (strNums (ByteArray.mk #[46, 46])).getD 0 0 = 46 := rfl
    simp only [List.cons_append, List.getD_cons_zero] at this
    rw [e2] at this
    omega
section
variable {gi gb : Int} {img : List Int} {l : List (Int × Int)} {f : Nat → Int} {c : Int} {E : Nat → ByteArray} {V : Nat → Int}
theorem own_le (f : Nat → Int) (c : Int) : (ownF f c).length ≤ 13 := by
  have := listF_le f 12
  unfold ownF
  split
  · omega
  · simp only [List.length_append, List.length_cons, List.length_nil]; omega
theorem Dir.addNew (h : Dir gi 61 img l f c E V) (hg : gi = 2) (hl : l.length + 30 ≤ 96) {xn : ByteArray} (hm : mayB xn = true) (hno : ∀ k, k < 12 → f k ≠ 0 → E k ≠ xn) (hr : (listF f 12).length < 12) :
    ∃ p b m c', p < 12 ∧ f p = 0 ∧ b ≠ 0 ∧ eAdd_M img l 1 gi 61 1 xn 1 = some (0, m) ∧ Dir gi 61 img m (upd f p b) c' (updA E p xn) (updA V p 1) ∧ m.length ≤ l.length + 30 ∧ (listF (upd f p b) 12).length = (listF f 12).length + 1 := by
  have hf : tfind_M img l 1 gi 61 1 xn = some (ByteArray.empty, 0, 0, 6) := by
    rcases h.find xn with ⟨q, _⟩ | ⟨_, p, p1, p2, p3, _⟩ | ⟨_, _, q⟩
    · rw [q] at hm; cases hm
    · exact absurd p3 (hno p p1 p2)
    · exact q
  rcases h.add hl (xn := xn) (xi := 1) hm (by omega) with ⟨p, p1, p2, m, b, c', a1, a2, a3, a4⟩ | ⟨p, p1, p2, p3, _⟩ | ⟨p1, _⟩
  · refine ⟨p, b, m, c', p1, p2, a3, h.eAdd_none (by omega) hf a1, a2, a4, ?_⟩
    have := listF_upd (n := 12) p2 a3
    rw [if_pos p1] at this
    exact this
  · exfalso
    have hc := h.mp.count fun _ x => x
    have ho := own_le f c
    have hn : needF f c p ≤ 2 := by unfold needF; split <;> (try split) <;> omega
    have e61 : (61 : Int).toNat = 61 := rfl
    omega
  · have := listF_all (k := 12) p1
    omega
theorem Dir.addFull (h : Dir gi 61 img l f c E V) (hg : gi = 2) (hl : l.length + 30 ≤ 96) {xn : ByteArray} (hm : mayB xn = true) (hno : ∀ k, k < 12 → f k ≠ 0 → E k ≠ xn) (hr : (listF f 12).length = 12) : eAdd_M img l 1 gi 61 1 xn 1 = some (16, l) := by
  have hf : tfind_M img l 1 gi 61 1 xn = some (ByteArray.empty, 0, 0, 6) := by
    rcases h.find xn with ⟨q, _⟩ | ⟨_, p, p1, p2, p3, _⟩ | ⟨_, _, q⟩
    · rw [q] at hm; cases hm
    · exact absurd p3 (hno p p1 p2)
    · exact q
  have hall := listF_full hr
  rcases h.add hl (xn := xn) (xi := 1) hm (by omega) with ⟨p, p1, p2, _⟩ | ⟨p, p1, p2, _⟩ | ⟨_, a⟩
  · exact absurd p2 (hall p p1)
  · exact absurd p2 (hall p p1)
  · exact h.eAdd_none (by omega) hf a
end
theorem b_may {t : ByteArray} {y : Int} (hy : 0 ≤ y ∧ y ≤ 255) (h : mayB (nmF t y) = true) : mayB (ByteArray.mk #[98] ++ t) = true := by
  have h1 := mayB_iff.1 h
  rw [nm_size] at h1
  have hny := nmF_nums t hy
  have hs : (ByteArray.mk #[98] ++ t).size = 1 + t.size := by rw [ByteArray.size_append]; rfl
  have hn : strNums (ByteArray.mk #[98] ++ t) = [98] ++ strNums t := by
    unfold strNums
    simp [ByteArray.data_append]
  refine mayB_iff.2 ⟨by omega, by omega, ?_, fun e => ?_, fun e => ?_⟩
  · cases hb : badB (ByteArray.mk #[98] ++ t) with
    | false => rfl
    | true =>
      obtain ⟨j, hj, hc⟩ := badB_iff.1 hb
      rw [hn] at hc
      match j with
      | 0 => simp at hc
      | j + 1 =>
        have : badB (nmF t y) = true := badB_iff.2 ⟨j + 2, by rw [nm_size]; omega, by rw [hny]; exact hc⟩
        rw [h1.2.2.1] at this
        cases this
  · have := congrArg strNums e
    rw [hn] at this
    have := congrArg (fun l : List Int => l.getD 0 0) this
    have e2 : (strNums (ByteArray.mk #[46])).getD 0 0 = 46 := rfl
    simp only [List.cons_append, List.getD_cons_zero] at this
    rw [e2] at this
    omega
  · have := congrArg strNums e
    rw [hn] at this
    have := congrArg (fun l : List Int => l.getD 0 0) this
    have e2 : (strNums (ByteArray.mk #[46, 46])).getD 0 0 = 46 := rfl
    simp only [List.cons_append, List.getD_cons_zero] at this
    rw [e2] at this
    omega
theorem entryfull_law {tx_ : ByteArray} {o_ : Int} (ho : 0 ≤ o_ ∧ o_ ≤ 255) : entryfull_M tx_ o_ = some true := by
  refine Ok.true ?_
  have hn : 0 ≤ mn (tx_.size : Int) 30 ∧ mn (tx_.size : Int) 30 ≤ 30 ∧ mn (tx_.size : Int) 30 ≤ (tx_.size : Int) := by unfold mn; split <;> omega
  have hts : (tx_.extract 0 (mn (tx_.size : Int) 30).toNat).size ≤ 30 := by rw [ByteArray.size_extract]; omega
  have hotm : o_.tmod 12 = o_ % 12 := Int.tmod_eq_emod_of_nonneg (by omega)
  have hM : May 1 2 61 := by unfold May; omega
  have hF : Dir 2 61 (fmtW 1 2 61) [] (fun _ => 0) 0 (fun _ => ByteArray.empty) (fun _ => 0) := ⟨Mp.fmt hM, fun k hk h => absurd rfl h⟩
  unfold entryfull_M
  refine Ok.need (by omega) (Ok.need (by have : (ByteArray.mk #[97, 97]).size = 2 := rfl; omega) (Ok.got15 (emay_eq _) (Ok.ite (fun hm => ?_) fun _ => works15_stop)))
  refine Ok.need (by omega) (Ok.need (by omega) ?_)
  have B0 : ∀ k q p, entryfull_B0 tx_ o_ k q p = entryfull_B0 tx_ o_ k q p := fun _ _ _ => rfl
  have hJ1 : ∀ q, entryfull_J1 tx_ o_ q = entryfull_J1 tx_ o_ q := fun _ => rfl
  unfold entryfull_B0 entryfull_J1 at *
  clear B0 hJ1
  rw [show (2 : Int) + 0 % 20 = 2 by omega, show (2 : Int) + 59 % 60 = 61 by omega, hotm]
  have em : ByteArray.mk #[97, 97] ++ tx_.extract 0 (mn (tx_.size : Int) 30).toNat = nmF (tx_.extract 0 (mn (tx_.size : Int) 30).toNat) 97 := rfl
  rw [em] at hm
  generalize tx_.extract 0 (mn (tx_.size : Int) 30).toNat = t at *
  have hmay : ∀ x : Int, 97 ≤ x ∧ x ≤ 255 → mayB (nmF t x) = true := fun x hx => nm_may (y := 97) (by omega) (by omega) (by omega) hm
  have e97 : ∀ x : Int, strOfNums [97, x] ++ t = nmF t x := fun _ => rfl
  have hsz2 : ∀ x : Int, (strOfNums [97, x]).size = 2 := fun _ => rfl
  refine Ok.iter (fun s : List Int × Int => (0 ≤ s.2 ∧ s.2 ≤ 14) ∧ ∃ f c E V, Dir 2 61 s.1 [] f c E V ∧ (listF f 12).length = min s.2.toNat 12 ∧ (∀ k, k < 12 → f k ≠ 0 → ∃ j : Nat, j < min s.2.toNat 12 ∧ E k = nmF t (97 + (j : Int))) ∧ (∀ j : Nat, j < min s.2.toNat 12 → ∃ k, k < 12 ∧ f k ≠ 0 ∧ E k = nmF t (97 + (j : Int))) ∧ (∀ i j, i < 12 → j < 12 → f i ≠ 0 → f j ≠ 0 → E i = E j → i = j)) (fun s => (14 - s.2).toNat) ?_ _ _
    ⟨by simp, _, _, _, _, hF, rfl, fun k _ h => absurd rfl h, fun j hj => (by simp at hj), fun i j _ _ h => absurd rfl h⟩ (fuel_lt (by simp only; omega))
  rintro k ⟨q, p⟩ ⟨hp0, f, c, E, V, h, h1, h2, h3, h4⟩ ih
  simp only at hp0 h h1 h2 h3 h4 ih ⊢
  have hql := h.mp.dk.len
  have hw := h.mp.dk.words
  rw [e97]
  refine Ok.ite (fun hp => ?_) (fun hp => ?_)
  · have hmod : (97 + p % 256) % 256 = 97 + p := by omega
    rw [hmod]
    have hpn : (97 + p : Int) = 97 + ((p.toNat : Nat) : Int) := by omega
    have hno : ∀ k, k < 12 → f k ≠ 0 → E k ≠ nmF t (97 + p) := fun k hk h0 e => by
      obtain ⟨j, hj, ej⟩ := h2 k hk h0
      rw [ej] at e
      have := nm_inj (by omega) (by omega) e
      omega
    have J3 : ∀ (m : List (Int × Int)) (f' : Nat → Int) (c' : Int) (E' : Nat → ByteArray) (V' : Nat → Int) (e : Int), Dir 2 61 q m f' c' E' V' → (listF f' 12).length = min (p + 1).toNat 12 → (∀ k, k < 12 → f' k ≠ 0 → ∃ j : Nat, j < min (p + 1).toNat 12 ∧ E' k = nmF t (97 + (j : Int))) → (∀ j : Nat, j < min (p + 1).toNat 12 → ∃ k, k < 12 ∧ f' k ≠ 0 ∧ E' k = nmF t (97 + (j : Int))) → (∀ i j, i < 12 → j < 12 → f' i ≠ 0 → f' j ≠ 0 → E' i = E' j → i = j) → Ok (· = true) (entryfull_J3 k q p (e, m)) := by
      intro m f' c' E' V' e h' g1 g2 g3 g4
      have hfl := h'.flat
      have hll := hfl.mp.dk.len
      have hw2 := hfl.mp.dk.words
      unfold entryfull_J3
      rw [show (2 : Int) + 0 % 20 = 2 by omega, show (2 : Int) + 59 % 60 = 61 by omega]
      refine Ok.name fun r hr => Ok.yes (by simp only; omega) (Ok.need (by omega) (ih _ ⟨by simp only; omega, f', c', E', V', hfl, g1, g2, g3, g4⟩ (by simp only; omega)))
    refine Ok.need (by omega) (Ok.need (by rw [hsz2]; omega) ?_)
    by_cases h12 : p < 12
    · obtain ⟨pl, b, m, c', a1, a2, a3, a4, a5, a6, a7⟩ := h.addNew rfl (by simp) (hmay (97 + p) (by omega)) hno (by omega)
      refine Ok.got15 a4 (Ok.yes ⟨fun _ => h12, fun _ => rfl⟩ (Ok.yes rfl (J3 m _ c' _ _ 0 a5 (by omega) (fun k hk h0 => ?_) (fun j hj => ?_) fun i j hi hj hi0 hj0 e => ?_)))
      · by_cases ek : k = pl
        · refine ⟨p.toNat, by omega, ?_⟩
          rw [ek, updA_at, hpn]
        · rw [upd_ne ek] at h0
          obtain ⟨j, j1, j2⟩ := h2 k hk h0
          exact ⟨j, by omega, by rw [updA_ne ek]; exact j2⟩
      · by_cases ej : j = p.toNat
        · exact ⟨pl, a1, by rw [upd_at]; exact a3, by rw [updA_at, ej, hpn]⟩
        · obtain ⟨k, k1, k2, k3⟩ := h3 j (by omega)
          have ek : k ≠ pl := fun e => k2 (by rw [e]; exact a2)
          exact ⟨k, k1, by rw [upd_ne ek]; exact k2, by rw [updA_ne ek]; exact k3⟩
      · by_cases ei : i = pl
        · by_cases ej : j = pl
          · rw [ei, ej]
          · rw [upd_ne ej] at hj0
            rw [ei, updA_at, updA_ne ej] at e
            exact absurd e.symm (hno j hj hj0)
        · rw [upd_ne ei] at hi0
          by_cases ej : j = pl
          · rw [ej, updA_at, updA_ne ei] at e
            exact absurd e (hno i hi hi0)
          · rw [upd_ne ej] at hj0
            rw [updA_ne ei, updA_ne ej] at e
            exact h4 i j hi hj hi0 hj0 e
    · have hA := h.addFull rfl (by simp) (hmay (97 + p) (by omega)) hno (by omega)
      refine Ok.got15 hA (Ok.yes ⟨fun q => absurd q (by decide), fun q => absurd q h12⟩ (Ok.no (by decide) (Ok.yes rfl (J3 [] f c E V 16 h (by omega) (fun k hk h0 => ?_) (fun j hj => ?_) h4))))
      · obtain ⟨j, j1, j2⟩ := h2 k hk h0
        exact ⟨j, by omega, j2⟩
      · exact h3 j (by omega)
  · have hp14 : p = 14 := by omega
    have hx : (97 + o_ % 12) % 256 = 97 + ((o_ % 12).toNat : Int) := by omega
    have hj12 : (o_ % 12).toNat < 12 := by omega
    obtain ⟨x, hxe⟩ : ∃ x : Int, x = 97 + ((o_ % 12).toNat : Int) := ⟨_, rfl⟩
    rw [e97, hx, ← hxe]
    have hxr : 97 ≤ x ∧ x ≤ 255 := by omega
    have h12 : (listF f 12).length = 12 := by rw [h1]; omega
    obtain ⟨k0, k1, k2, k3⟩ := h3 (o_ % 12).toNat (by omega)
    rw [← hxe] at k3
    have hbs : (ByteArray.mk #[98] ++ t).size = 1 + t.size := by rw [ByteArray.size_append]; rfl
    have hbn : ∀ y, nmF t y ≠ ByteArray.mk #[98] ++ t := fun y e => by
      have := congrArg ByteArray.size e
      rw [nm_size, hbs] at this
      omega
    rcases h.find (nmF t x) with ⟨q0, _⟩ | ⟨_, pl, p1, p2, p3, pf⟩ | ⟨_, q0, _⟩
    · rw [hmay x hxr] at q0; cases q0
    rotate_left
    · exact absurd k3 (q0 k0 k1 k2)
    obtain ⟨m, c', a1, a2, a3⟩ := h.eRemove (by simp) p1 pf
    simp only [List.length_nil] at a3
    have hd := listF_drop (k := 12) p1 p2
    obtain ⟨pn, b, m2, c2, b1, b2, b3, b4, b5, b6, b7⟩ := a2.addNew rfl (by omega) (b_may (y := 97) (by omega) hm) (fun k hk h0 e => by
      have ek : k ≠ pl := fun q1 => h0 (by rw [q1, upd_at])
      rw [upd_ne ek] at h0
      obtain ⟨j, _, ej⟩ := h2 k hk h0
      rw [ej] at e
      exact hbn _ e) (by omega)
    have hno2 : ∀ k, k < 12 → upd (upd f pl 0) pn b k ≠ 0 → updA E pn (ByteArray.mk #[98] ++ t) k ≠ nmF t x := fun k hk h0 e => by
      by_cases ek : k = pn
      · rw [ek, updA_at] at e
        exact hbn _ e.symm
      · rw [upd_ne ek] at h0
        rw [updA_ne ek] at e
        have el : k ≠ pl := fun q1 => h0 (by rw [q1, upd_at])
        rw [upd_ne el] at h0
        exact el (h4 k pl hk p1 h0 p2 (by rw [e, p3]))
    have hfind : tfind_M q m2 1 2 61 1 (nmF t x) = some (ByteArray.empty, 0, 0, 6) := by
      rcases b5.find (nmF t x) with ⟨q0, _⟩ | ⟨_, pl2, q1, q2, q3, _⟩ | ⟨_, _, q0⟩
      · rw [hmay x hxr] at q0; cases q0
      · exact absurd q3 (hno2 pl2 q1 q2)
      · exact q0
    have hfull := b5.addFull rfl (by omega) (hmay x hxr) hno2 (by omega)
    have hlist := b5.eList
    have hel := entL_len (upd (upd f pl 0) pn b) (updA E pn (ByteArray.mk #[98] ++ t)) (updA V pn 1) 12
    refine Ok.need (by omega) (Ok.need (by rw [hsz2]; omega) (Ok.got15 a1 (Ok.yes rfl (Ok.need (by have : (ByteArray.mk #[98]).size = 1 := rfl; omega) (Ok.got15 b4 (Ok.yes rfl ?_))))))
    refine Ok.got15 ((b5.eFind _).trans hfind) (Ok.got15 hfull (Ok.got15 hlist ?_))
    exact Ok.yes rfl (Ok.yes rfl (Ok.yes rfl (Ok.yes (by simp only; omega) works15_stop)))
end Go.Proofs.YtmmclabkkigiaaaGreatDoor
