/- Texts, one behind the other: Pb, Pc, Kw, Pg, F6a, F6b. -/
import Derived.Test.YtmmclabkkigiaaaDoorQDN1
set_option linter.unusedVariables false
set_option linter.unusedSimpArgs false
namespace Go.Proofs.YtmmclabkkigiaaaDoor
open Go Go.RowKit
set_option linter.unusedVariables false

def bitI (v : Int) (j : Nat) : Bool := v.toNat.testBit j
theorem bitI_out {v : Int} {j : Nat} (h : U64 v) (hj : 64 ≤ j) : bitI v j = false := by
  have hl : v.toNat < 2 ^ 64 := by unfold U64 at h; omega
  exact Nat.testBit_lt_two_pow (Nat.lt_of_lt_of_le hl (Nat.pow_le_pow_right (by omega) hj))
theorem bitI_ext {x y : Int} (hx : U64 x) (hy : U64 y) (h : ∀ j, j < 64 → bitI x j = bitI y j) : x = y := by
  have e : x.toNat = y.toNat := Nat.eq_of_testBit_eq fun j => by
    by_cases hj : j < 64
    · exact h j hj
    · exact (bitI_out hx (by omega)).trans (bitI_out hy (by omega)).symm
  unfold U64 at hx hy
  omega
theorem ofInt_of {x : Int} (h : U64 x) : BitVec.ofInt 64 x = BitVec.ofNat 64 x.toNat := by
  obtain ⟨n, rfl⟩ := Int.eq_ofNat_of_zero_le h.1
  simp
theorem bits_of {op : BinOp} {x y : Int} (hx : U64 x) (hy : U64 y) : bits op .u64 x y = (((match op with
    | .and => BitVec.ofNat 64 x.toNat &&& BitVec.ofNat 64 y.toNat
    | .or => BitVec.ofNat 64 x.toNat ||| BitVec.ofNat 64 y.toNat
    | .xor => BitVec.ofNat 64 x.toNat ^^^ BitVec.ofNat 64 y.toNat
    | _ => BitVec.ofNat 64 x.toNat &&& ~~~(BitVec.ofNat 64 y.toNat)) : BitVec 64).toNat : Int) := by
  unfold bits
  rw [show IntKind.u64.bits = 64 from rfl]
  simp only [ofInt_of hx, ofInt_of hy]
  have h : ∀ b : BitVec 64, IntKind.u64.wrap (b.toNat : Int) = (b.toNat : Int) := fun b => wrap_u64 (Int.natCast_nonneg _) (Int.ofNat_lt.2 b.isLt)
  exact h _
theorem bits_u64 {op : BinOp} {x y : Int} (hx : U64 x) (hy : U64 y) : U64 (bits op .u64 x y) := by
  rw [bits_of hx hy]
  exact ⟨Int.natCast_nonneg _, Int.ofNat_lt.2 (BitVec.isLt _)⟩
theorem bitI_cast (b : BitVec 64) (j : Nat) : bitI (b.toNat : Int) j = b.getLsbD j := by
  unfold bitI
  rw [Int.toNat_natCast]
  exact BitVec.testBit_toNat b
theorem lsb_of {x : Int} {j : Nat} (hx : U64 x) : (BitVec.ofNat 64 x.toNat).getLsbD j = bitI x j := by
  rw [BitVec.getLsbD_ofNat]
  by_cases hj : j < 64
  · simp [hj, bitI]
  · have := bitI_out (j := j) hx (by omega)
    simp [hj, this]
theorem bitI_and {x y : Int} {j : Nat} (hx : U64 x) (hy : U64 y) : bitI (bits .and .u64 x y) j = (bitI x j && bitI y j) := by
  rw [bits_of hx hy, bitI_cast, BitVec.getLsbD_and, lsb_of hx, lsb_of hy]
theorem bitI_or {x y : Int} {j : Nat} (hx : U64 x) (hy : U64 y) : bitI (bits .or .u64 x y) j = (bitI x j || bitI y j) := by
  rw [bits_of hx hy, bitI_cast, BitVec.getLsbD_or, lsb_of hx, lsb_of hy]
theorem bitI_xor {x y : Int} {j : Nat} (hx : U64 x) (hy : U64 y) : bitI (bits .xor .u64 x y) j = (bitI x j ^^ bitI y j) := by
  rw [bits_of hx hy, bitI_cast, BitVec.getLsbD_xor, lsb_of hx, lsb_of hy]
theorem bitI_andNot {x y : Int} {j : Nat} (hx : U64 x) (hy : U64 y) : bitI (bits .andNot .u64 x y) j = (bitI x j && !bitI y j) := by
  rw [bits_of hx hy, bitI_cast, BitVec.getLsbD_and, BitVec.getLsbD_not, lsb_of hx, lsb_of hy]
  by_cases hj : j < 64
  · simp [hj]
  · have := bitI_out (j := j) hx (by omega)
    simp [this]
theorem pow_u64 {j : Nat} (h : j < 64) : U64 (2 ^ j) := by
  have h1 : (2 : Nat) ^ j < 2 ^ 64 := Nat.pow_lt_pow_right (by omega) h
  have h2 : ((2 ^ j : Nat) : Int) = 2 ^ j := by simp
  rw [← h2]
  exact ⟨Int.natCast_nonneg _, Int.ofNat_lt.2 h1⟩
theorem bitI_pow {j t : Nat} : bitI (2 ^ j) t = decide (j = t) := by
  have h2 : ((2 ^ j : Nat) : Int) = 2 ^ j := by simp
  unfold bitI
  rw [← h2, Int.toNat_natCast, Nat.testBit_two_pow]
theorem bitI_zero {j : Nat} : bitI 0 j = false := by simp [bitI]

def setb (v : Int) (j : Nat) (b : Bool) : Int := if b = true then bits .or .u64 v (2 ^ j) else bits .andNot .u64 v (2 ^ j)
theorem setb_u64 {v : Int} {j : Nat} {b : Bool} (hv : U64 v) (hj : j < 64) : U64 (setb v j b) := by
  unfold setb
  split <;> exact bits_u64 hv (pow_u64 hj)
theorem bitI_setb {v : Int} {j t : Nat} {b : Bool} (hv : U64 v) (hj : j < 64) : bitI (setb v j b) t = if t = j then b else bitI v t := by
  unfold setb
  cases b
  · rw [if_neg (by decide), bitI_andNot hv (pow_u64 hj), bitI_pow]
    by_cases h : t = j
    · subst h; simp
    · rw [if_neg h]; simp [show ¬ j = t from fun e => h e.symm]
  · rw [if_pos rfl, bitI_or hv (pow_u64 hj), bitI_pow]
    by_cases h : t = j
    · subst h; simp
    · rw [if_neg h]; simp [show ¬ j = t from fun e => h e.symm]
theorem setb_ins {v : Int} {j : Nat} (hv : U64 v) (hj : j < 64) : bits .or .u64 (bits .andNot .u64 v (2 ^ j)) (2 ^ j) = setb v j true := by
  have h1 := bits_u64 (op := .andNot) hv (pow_u64 hj)
  refine bitI_ext (bits_u64 h1 (pow_u64 hj)) (setb_u64 hv hj) fun t ht => ?_
  rw [bitI_setb hv hj, bitI_or h1 (pow_u64 hj), bitI_andNot hv (pow_u64 hj), bitI_pow]
  by_cases h : t = j
  · subst h; simp
  · rw [if_neg h]; simp [show ¬ j = t from fun e => h e.symm]
theorem and_pow_zero {v : Int} {j : Nat} (hv : U64 v) (hj : j < 64) : (!decide (bits .and .u64 v (2 ^ j) = 0)) = bitI v j := by
  by_cases h : bitI v j = true
  · rw [h]
    have : ¬ bits .and .u64 v (2 ^ j) = 0 := fun e => by
      have h2 := congrArg (fun x => bitI x j) e
      simp only [bitI_and hv (pow_u64 hj), bitI_pow, h, bitI_zero] at h2
      simp at h2
    simp [this]
  · have h' : bitI v j = false := by simpa using h
    rw [h']
    have : bits .and .u64 v (2 ^ j) = 0 := by
      refine bitI_ext (bits_u64 hv (pow_u64 hj)) u64_zero fun t ht => ?_
      rw [bitI_and hv (pow_u64 hj), bitI_pow, bitI_zero]
      by_cases e : j = t
      · subst e; simp [h']
      · simp [e]
    simp [this]

def cnt (f : Nat → Bool) : Nat → Nat
  | 0 => 0
  | n + 1 => cnt f n + (if f n = true then 1 else 0)
theorem cnt_le (f : Nat → Bool) : ∀ n, cnt f n ≤ n
  | 0 => Nat.le_refl _
  | n + 1 => by have := cnt_le f n; unfold cnt; split <;> omega
theorem cnt_congr {f g : Nat → Bool} : ∀ {n : Nat}, (∀ i, i < n → f i = g i) → cnt f n = cnt g n
  | 0, _ => rfl
  | n + 1, h => by unfold cnt; rw [cnt_congr (fun i hi => h i (by omega)), h n (by omega)]
theorem cnt_add (f : Nat → Bool) (n : Nat) : ∀ m, cnt f (n + m) = cnt f n + cnt (fun i => f (n + i)) m
  | 0 => rfl
  | m + 1 => by rw [show n + (m + 1) = (n + m) + 1 from rfl, cnt, cnt, cnt_add f n m]; omega
theorem cnt_set {f : Nat → Bool} {j : Nat} {b : Bool} : ∀ {n : Nat}, j < n → cnt (fun i => if i = j then b else f i) n + (if f j = true then 1 else 0) = cnt f n + (if b = true then 1 else 0)
  | 0, h => by omega
  | n + 1, h => by
    unfold cnt
    by_cases e : n = j
    · subst e
      have : cnt (fun i => if i = n then b else f i) n = cnt f n := cnt_congr fun i hi => if_neg (by omega)
      rw [this, if_pos rfl]
      omega
    · have := cnt_set (f := f) (b := b) (j := j) (n := n) (by omega)
      rw [if_neg e]
      omega
theorem cnt_full {f : Nat → Bool} : ∀ {n : Nat}, (∀ i, i < n → f i = true) → cnt f n = n
  | 0, _ => rfl
  | n + 1, h => by unfold cnt; rw [cnt_full (fun i hi => h i (by omega)), if_pos (h n (by omega))]
theorem cnt_none {f : Nat → Bool} : ∀ {n : Nat}, (∀ i, i < n → f i = false) → cnt f n = 0
  | 0, _ => rfl
  | n + 1, h => by unfold cnt; rw [cnt_none (fun i hi => h i (by omega)), h n (by omega)]; simp
theorem popN_cnt : ∀ (n x : Nat), popN n x = cnt (fun i => x.testBit i) n
  | 0, _ => rfl
  | n + 1, x => by
    rw [popN, popN_cnt n (x / 2), Nat.add_comm n 1, cnt_add]
    have e1 : cnt (fun i => x.testBit i) 1 = x % 2 := by
      unfold cnt cnt
      rw [Nat.testBit_zero]
      by_cases h : x % 2 = 1
      · simp [h]
      · simp [h]; omega
    have e2 : cnt (fun i => (x / 2).testBit i) n = cnt (fun i => x.testBit (1 + i)) n := cnt_congr fun i _ => by rw [Nat.add_comm 1 i]; exact (Nat.testBit_succ x i).symm
    rw [e1, e2]

def lst (f : Nat → Bool) (n : Nat) : Int × Bool := match (List.range n).find? (fun i => !f i) with
  | some i => ((i : Int), true)
  | none => (0, false)
theorem lst_at {f : Nat → Bool} {n i : Nat} (hi : i < n) (h1 : f i = false) (h2 : ∀ j, j < i → f j = true) : lst f n = ((i : Int), true) := by
  have : (List.range n).find? (fun i => !f i) = some i := by
    rw [List.find?_range_eq_some]
    refine ⟨by simp [h1], by simpa using hi, fun j hj => by simp [h2 j hj]⟩
  unfold lst
  rw [this]
theorem lst_full {f : Nat → Bool} {n : Nat} (h : ∀ j, j < n → f j = true) : lst f n = (0, false) := by
  have : (List.range n).find? (fun i => !f i) = none := by
    rw [List.find?_eq_none]
    intro x hx
    simp [h x (by simpa using hx)]
  unfold lst
  rw [this]
theorem lst_cases (f : Nat → Bool) (n : Nat) : (∃ i, i < n ∧ f i = false ∧ (∀ j, j < i → f j = true) ∧ lst f n = ((i : Int), true)) ∨ ((∀ j, j < n → f j = true) ∧ lst f n = (0, false)) := by
  by_cases h : ∃ i, i < n ∧ f i = false
  · obtain ⟨i, hi, hf⟩ := h
    have key : ∀ m, m ≤ n → (∀ j, j < m → f j = true) ∨ ∃ i, i < m ∧ f i = false ∧ ∀ j, j < i → f j = true := by
      intro m
      induction m with
      | zero => intro _; exact .inl fun j hj => by omega
      | succ m ih =>
        intro hm
        rcases ih (by omega) with h1 | ⟨i, h1, h2, h3⟩
        · by_cases h4 : f m = true
          · exact .inl fun j hj => (Nat.lt_succ_iff_lt_or_eq.1 hj).elim (h1 j) (fun e => e ▸ h4)
          · exact .inr ⟨m, by omega, by simpa using h4, h1⟩
        · exact .inr ⟨i, by omega, h2, h3⟩
    rcases key n (Nat.le_refl _) with h1 | ⟨i, h1, h2, h3⟩
    · rw [h1 i hi] at hf; cases hf
    · exact .inl ⟨i, h1, h2, h3, lst_at h1 h2 h3⟩
  · have h' : ∀ j, j < n → f j = true := fun j hj => by
      by_cases h1 : f j = true
      · exact h1
      · exact absurd ⟨j, hj, by simpa using h1⟩ h
    exact .inr ⟨h', lst_full h'⟩

def mbits (img : List Int) (l : List (Int × Int)) (at_ : Int) (i : Nat) : Bool := bitI (vget img l (at_ + (i / 64 : Nat))) (i % 64)
theorem mget_ok {img : List Int} {l : List (Int × Int)} {at_ many i_ : Int} (hv : VR img l) (ha : 0 ≤ at_ ∧ at_ ≤ 1000000000000) (hm : many ≤ 1000000000000) :
    mget_M img l at_ many i_ = some (decide (0 ≤ i_ ∧ i_ < many) && mbits img l at_ i_.toNat) := by
  unfold mget_M
  by_cases h : 0 ≤ i_ ∧ i_ < many
  · rw [if_pos h]
    refine need_of (by omega) ?_
    rw [decide_eq_true h, Bool.true_and, and_pow_zero (hv _) (by omega)]
    unfold mbits
    congr 3 <;> omega
  · rw [if_neg h, decide_eq_false h, Bool.false_and]
def msetF (img : List Int) (l : List (Int × Int)) (at_ many i_ : Int) (is_ : Bool) : Int × List (Int × Int) :=
  if 0 ≤ i_ ∧ i_ < many then vput img l (at_ + i_ / 64) (setb (vget img l (at_ + i_ / 64)) (i_ % 64).toNat is_) else (8, l)
theorem mset_ok {img : List Int} {l : List (Int × Int)} {at_ many i_ : Int} {is_ : Bool} (hv : VR img l) (ha : 0 ≤ at_ ∧ at_ ≤ 1000000000000) (hm : many ≤ 1000000000000) :
    mset_M img l at_ many i_ is_ = some (msetF img l at_ many i_ is_) := by
  unfold mset_M msetF
  by_cases h : 0 ≤ i_ ∧ i_ < many
  · rw [if_pos h, if_pos h]
    refine need_of (by omega) ?_
    refine bind_of rfl ?_
    cases is_
    · rw [if_neg (by decide)]; rfl
    · rw [if_pos rfl]
      refine bind_of rfl ?_
      unfold mset_J1
      refine bind_of rfl ?_
      rw [setb_ins (hv _) (by omega)]
  · rw [if_neg h, if_neg h]
theorem mset_in {img : List Int} {l : List (Int × Int)} {at_ many i_ : Int} {is_ : Bool} (hv : VR img l) (hok : VOk img l) (hi : 0 ≤ i_ ∧ i_ < many) (ha : 0 ≤ at_ ∧ at_ + i_ / 64 < img.length) (hl : l.length < 96) :
    ∃ l', msetF img l at_ many i_ is_ = (0, l') ∧ VR img l' ∧ VOk img l' ∧ l'.length ≤ l.length + 1 ∧ l' = vset l (at_ + i_ / 64) (setb (vget img l (at_ + i_ / 64)) (i_ % 64).toNat is_) ∧
      (∀ k, vget img l' k = if k = at_ + i_ / 64 then setb (vget img l k) (i_ % 64).toNat is_ else vget img l k) ∧ (∀ i, mbits img l' at_ i = if i = i_.toNat then is_ else mbits img l at_ i) := by
  have hin : 0 ≤ at_ + i_ / 64 ∧ at_ + i_ / 64 < (img.length : Int) := by omega
  have hg : ∀ k, vget img (vset l (at_ + i_ / 64) (setb (vget img l (at_ + i_ / 64)) (i_ % 64).toNat is_)) k = if k = at_ + i_ / 64 then setb (vget img l k) (i_ % 64).toNat is_ else vget img l k := by
    intro k
    rw [vget_vset hin]
    by_cases e : k = at_ + i_ / 64
    · subst e; rfl
    · rw [if_neg e, if_neg e]
  have hlen := vput_len img l (at_ + i_ / 64) (setb (vget img l (at_ + i_ / 64)) (i_ % 64).toNat is_)
  rw [vput_in hin hl] at hlen
  refine ⟨_, ?_, hv.put hin (setb_u64 (hv _) (by omega)), hok.put hin (.inr hl), hlen, rfl, hg, fun i => ?_⟩
  · unfold msetF; rw [if_pos hi, vput_in hin hl]
  · unfold mbits
    rw [hg]
    by_cases e : at_ + ((i / 64 : Nat) : Int) = at_ + i_ / 64
    · rw [if_pos e, bitI_setb (hv _) (by omega)]
      by_cases e2 : i % 64 = (i_ % 64).toNat
      · rw [if_pos e2, if_pos (by omega)]
      · rw [if_neg e2, if_neg (fun h => e2 (by omega))]
    · rw [if_neg e, if_neg (fun h => e (by omega))]

theorem emod_le {v : Int} {m : Nat} (h : 0 ≤ v) : v % 2 ^ m ≤ v := by
  obtain ⟨n, rfl⟩ := Int.eq_ofNat_of_zero_le h
  have h2 : ((2 ^ m : Nat) : Int) = 2 ^ m := by simp
  rw [← h2, ← Int.natCast_emod]
  exact Int.ofNat_le.2 (Nat.mod_le _ _)
theorem mwordAt_u64 {img : List Int} {l : List (Int × Int)} {at_ many : Int} {k : Nat} (hv : VR img l) : U64 (mwordAt img l at_ many k) := by
  have h := hv (at_ + k)
  unfold mwordAt
  split
  · have h2 : (0 : Int) < 2 ^ (many - 64 * (k : Int)).toNat := Int.pow_pos (by omega)
    have h3 := Int.emod_nonneg (vget img l (at_ + k)) (b := 2 ^ (many - 64 * (k : Int)).toNat) (by omega)
    have h4 : vget img l (at_ + k) % 2 ^ (many - 64 * (k : Int)).toNat ≤ vget img l (at_ + k) := emod_le h.1
    unfold U64 at *
    omega
  · exact h
theorem bitI_mod {v : Int} {m j : Nat} (h : 0 ≤ v) : bitI (v % 2 ^ m) j = (decide (j < m) && bitI v j) := by
  obtain ⟨n, rfl⟩ := Int.eq_ofNat_of_zero_le h
  have h2 : ((2 ^ m : Nat) : Int) = 2 ^ m := by simp
  unfold bitI
  rw [← h2, ← Int.natCast_emod, Int.toNat_natCast, Int.toNat_natCast, Nat.testBit_mod_two_pow]
theorem bitI_word {img : List Int} {l : List (Int × Int)} {at_ many : Int} {k j : Nat} (hv : VR img l) (hj : j < 64) (hk : 64 * (k : Int) < many) : bitI (mwordAt img l at_ many k) j = (decide (64 * (k : Int) + j < many) && mbits img l at_ (64 * k + j)) := by
  have e : mbits img l at_ (64 * k + j) = bitI (vget img l (at_ + k)) j := by
    unfold mbits
    rw [show (64 * k + j) / 64 = k by omega, show (64 * k + j) % 64 = j by omega]
  rw [e]
  unfold mwordAt
  split
  · rw [bitI_mod (hv _).1]
    congr 1
    exact decide_eq_decide.2 (by omega)
  · rw [decide_eq_true (by omega), Bool.true_and]

theorem ones_ok {x : Int} (h : U64 x) : ones_M x = some ((cnt (bitI x) 64 : Nat) : Int) := by
  obtain ⟨n, rfl⟩ := Int.eq_ofNat_of_zero_le h.1
  have hn : n < 18446744073709551616 := by have := h.2; omega
  obtain ⟨y, hy, hsum, hlt⟩ := swar_eq hn
  have hand : ∀ a b : Nat, a < 18446744073709551616 → b < 18446744073709551616 → bits .and .u64 (a : Int) (b : Int) = ((a &&& b : Nat) : Int) := by
    intro a b ha hb
    rw [bits_of ⟨by omega, by omega⟩ ⟨by omega, by omega⟩]
    simp only [Int.toNat_natCast]
    rw [BitVec.toNat_and, BitVec.toNat_ofNat, BitVec.toNat_ofNat, Nat.mod_eq_of_lt ha, Nat.mod_eq_of_lt hb]
  have hshr : ∀ (a : Nat) (s : Nat), s < 64 → shrK .u64 (a : Int) (s : Int) = ((a / 2 ^ s : Nat) : Int) := by
    intro a s hs
    unfold shrK
    have e : min (s : Int).toNat IntKind.u64.bits = s := by
      have : IntKind.u64.bits = 64 := rfl
      omega
    rw [e, Int.fdiv_eq_ediv_of_nonneg _ (Int.le_of_lt (Int.pow_pos (by omega)))]
    simp
  have al : ∀ a b : Nat, b < 18446744073709551616 → (a &&& b) < 18446744073709551616 := fun a b hb => Nat.and_lt_two_pow (n := 64) a hb
  have s1 : ∀ m x : Nat, x < 18446744073709551616 → m ≤ 6148914691236517205 → ((bits .and .u64 (shrK .u64 (x : Int) 1) (m : Int)) + (bits .and .u64 (x : Int) (m : Int))) % 18446744073709551616 = ((st1 m x : Nat) : Int) := by
    intro m x hx hm
    rw [show (1 : Int) = ((1 : Nat) : Int) from rfl, hshr x 1 (by omega), hand _ _ (by omega) (by omega), hand _ _ hx (by omega)]
    have h1 := Nat.and_le_right (n := x / 2 ^ 1) (m := m)
    have h2 := Nat.and_le_right (n := x) (m := m)
    unfold st1
    rw [show x / 2 ^ 1 = x / 2 from rfl] at *
    omega
  have s2 : ∀ m x : Nat, x < 18446744073709551616 → m ≤ 6148914691236517205 → ((bits .and .u64 (shrK .u64 (x : Int) 2) (m : Int)) + (bits .and .u64 (x : Int) (m : Int))) % 18446744073709551616 = ((st2 m x : Nat) : Int) := by
    intro m x hx hm
    rw [show (2 : Int) = ((2 : Nat) : Int) from rfl, hshr x 2 (by omega), hand _ _ (by omega) (by omega), hand _ _ hx (by omega)]
    have h1 := Nat.and_le_right (n := x / 2 ^ 2) (m := m)
    have h2 := Nat.and_le_right (n := x) (m := m)
    unfold st2
    rw [show x / 2 ^ 2 = x / 4 from rfl] at *
    omega
  have b1 : ∀ x : Nat, st1 6148914691236517205 x < 18446744073709551616 := fun x => by
    have h1 := Nat.and_le_right (n := x / 2) (m := 6148914691236517205)
    have h2 := Nat.and_le_right (n := x) (m := 6148914691236517205)
    unfold st1; omega
  have b2 : ∀ x : Nat, st2 3689348814741910323 x ≤ 7378697629483820646 := fun x => by
    have h1 := Nat.and_le_right (n := x / 4) (m := 3689348814741910323)
    have h2 := Nat.and_le_right (n := x) (m := 3689348814741910323)
    unfold st2; omega
  have e1 := s1 6148914691236517205 n hn (by omega)
  have e2 := s2 3689348814741910323 (st1 6148914691236517205 n) (b1 n) (by omega)
  have g2 := b2 (st1 6148914691236517205 n)
  generalize hx2 : st2 3689348814741910323 (st1 6148914691236517205 n) = x2 at *
  have e3 : bits .and .u64 (((shrK .u64 (x2 : Int) 4) + (x2 : Int)) % 18446744073709551616) 1085102592571150095 = ((y : Nat) : Int) := by
    rw [show (4 : Int) = ((4 : Nat) : Int) from rfl, hshr x2 4 (by omega), show (x2 / 2 ^ 4) = x2 / 16 from rfl]
    have e : (((x2 / 16 : Nat) : Int) + (x2 : Int)) % 18446744073709551616 = ((x2 / 16 + x2 : Nat) : Int) := by omega
    rw [e, show (1085102592571150095 : Int) = ((1085102592571150095 : Nat) : Int) from rfl, hand _ _ (by omega) (by omega)]
    exact congrArg _ hy
  generalize ht : y + y / 256 = t at *
  generalize hu : t + t / 65536 = u at *
  have e4 : ((y : Int) + shrK .u64 (y : Int) 8) % 18446744073709551616 = ((t : Nat) : Int) := by
    rw [show (8 : Int) = ((8 : Nat) : Int) from rfl, hshr y 8 (by omega), show (y / 2 ^ 8) = y / 256 from rfl]
    omega
  have e5 : ((t : Int) + shrK .u64 (t : Int) 16) % 18446744073709551616 = ((u : Nat) : Int) := by
    rw [show (16 : Int) = ((16 : Nat) : Int) from rfl, hshr t 16 (by omega), show (t / 2 ^ 16) = t / 65536 from rfl]
    omega
  have e6 : ((u : Int) + shrK .u64 (u : Int) 32) % 18446744073709551616 = ((u + u / 4294967296 : Nat) : Int) := by
    rw [show (32 : Int) = ((32 : Nat) : Int) from rfl, hshr u 32 (by omega), show (u / 2 ^ 32) = u / 4294967296 from rfl]
    omega
  unfold ones_M
  refine bind_of (y := ((st1 6148914691236517205 n : Nat) : Int)) (congrArg some e1) ?_
  refine bind_of (y := ((x2 : Nat) : Int)) (congrArg some e2) ?_
  refine bind_of (y := ((y : Nat) : Int)) (congrArg some e3) ?_
  refine bind_of (y := ((t : Nat) : Int)) (congrArg some e4) ?_
  refine bind_of (y := ((u : Nat) : Int)) (congrArg some e5) ?_
  refine bind_of (y := ((u + u / 4294967296 : Nat) : Int)) (congrArg some e6) ?_
  refine need_of (by omega) ?_
  congr 1
  have hc : popN 64 n = cnt (bitI (n : Int)) 64 := by rw [popN_cnt]; rfl
  rw [← hc, ← hsum]
  generalize u + u / 4294967296 = z
  unfold bits
  rw [show IntKind.i64.bits = 64 from rfl]
  show IntKind.i64.wrap ((BitVec.ofInt 64 (z : Int) &&& BitVec.ofInt 64 127).toNat : Int) = _
  rw [BitVec.toNat_and, BitVec.ofInt_natCast, BitVec.toNat_ofNat, show (BitVec.ofInt 64 127).toNat = 2 ^ 7 - 1 from rfl, Nat.and_two_pow_sub_one_eq_mod]
  rw [wrap_i64 (by omega) (by omega)]
  omega
end Go.Proofs.YtmmclabkkigiaaaDoor

namespace Go.Proofs.YtmmclabkkigiaaaDoor
open Go Go.RowKit
set_option linter.unusedVariables false

section
variable {img : List Int} {l : List (Int × Int)} {at_ many : Int}
theorem word_cnt (hv : VR img l) {k : Nat} (hk : 64 * (k : Int) < many) : cnt (bitI (mwordAt img l at_ many k)) 64 = cnt (fun j => decide (((64 * k + j : Nat) : Int) < many) && mbits img l at_ (64 * k + j)) 64 :=
  cnt_congr fun j hj => by
    rw [bitI_word hv hj hk]
    congr 1
theorem mcount_ok (hv : VR img l) (ha : 0 ≤ at_ ∧ at_ ≤ 1000000000000) (hm : 1 ≤ many ∧ many ≤ 1000000000000) :
    mcount_M img l at_ many = some ((cnt (mbits img l at_) many.toNat : Nat) : Int) := by
  unfold mcount_M
  refine need_of (by omega) ?_
  obtain ⟨g, hg⟩ : ∃ g : Nat → Bool, g = fun (i : Nat) => decide ((i : Int) < many) && mbits img l at_ i := ⟨_, rfl⟩
  have key : ∀ (m k : Nat), k + m = nWords many → rounds (fun k_ c_ s_ => mcount_R19 img l at_ many k_ c_ s_) (fun s_ => mcount_D19 s_) m k ((cnt g (64 * k) : Nat) : Int) = some ((cnt g (64 * (nWords many)) : Nat) : Int) := by
    intro m
    induction m with
    | zero =>
      intro k hk
      have e : k = nWords many := by omega
      subst e
      rfl
    | succ m ih =>
      intro k hk
      have hlt : 64 * (k : Int) < many := by unfold nWords at hk; omega
      have hb := cnt_le g (64 * k)
      have hw := cnt_le (bitI (mwordAt img l at_ many k)) 64
      have hkm : k ≤ 1000000000000 := by omega
      show mcount_R19 img l at_ many k _ _ = _
      unfold mcount_R19
      refine bind_of rfl (bind_of (ones_ok (mwordAt_u64 hv)) (need_of (by omega) ?_))
      have e : ((cnt g (64 * k) : Nat) : Int) + ((cnt (bitI (mwordAt img l at_ many k)) 64 : Nat) : Int) = ((cnt g (64 * (k + 1)) : Nat) : Int) := by
        rw [show 64 * (k + 1) = 64 * k + 64 by omega, cnt_add, word_cnt hv hlt, hg]
        simp
      rw [e]
      exact ih (k + 1) (by omega)
  have h0 := key (nWords many) 0 (by omega)
  rw [show ((cnt g (64 * 0) : Nat) : Int) = 0 from rfl] at h0
  rw [h0]
  have e : 64 * nWords many = many.toNat + (64 * nWords many - many.toNat) := by unfold nWords; omega
  rw [e, cnt_add]
  have z : cnt (fun i => g (many.toNat + i)) (64 * nWords many - many.toNat) = 0 := cnt_none fun i _ => by rw [hg]; simp; omega
  have c : cnt g many.toNat = cnt (mbits img l at_) many.toNat := cnt_congr fun i hi => by
    rw [hg]
    simp only
    rw [decide_eq_true (by omega), Bool.true_and]
  rw [z, c]
  rfl

theorem ctz_bit {x : Nat} (h0 : x ≠ 0) (h : x < 2 ^ 64) : Lib.ctz 64 x < 64 ∧ x.testBit (Lib.ctz 64 x) = true ∧ ∀ j, j < Lib.ctz 64 x → x.testBit j = false := by
  unfold Lib.ctz
  rw [if_neg h0]
  obtain ⟨m, hm, hlt⟩ := Lib.ctzFrom_spec 64 x (by omega) h
  generalize Lib.ctzFrom 64 x = k at *
  subst hm
  refine ⟨hlt, ?_, fun j hj => ?_⟩
  · rw [Nat.mul_comm, Nat.testBit_mul_two_pow]; simp [Nat.testBit_zero]
  · rw [Nat.mul_comm, Nat.testBit_mul_two_pow]; simp; omega
theorem bitI_ones {j : Nat} (hj : j < 64) : bitI 18446744073709551615 j = true := by
  show (18446744073709551615 : Nat).testBit j = true
  rw [show (18446744073709551615 : Nat) = 2 ^ 64 - 1 from rfl, Nat.testBit_two_pow_sub_one]
  simpa using hj
theorem mclear_ok (hv : VR img l) (ha : 0 ≤ at_ ∧ at_ ≤ 1000000000000) (hm : 1 ≤ many ∧ many ≤ 1000000000000) :
    mclear_M img l at_ many = some (lst (mbits img l at_) many.toNat) := by
  unfold mclear_M
  refine need_of (by omega) ?_
  have key : ∀ (m k : Nat), k + m = nWords many → (∀ j, j < 64 * k → (j : Int) < many → mbits img l at_ j = true) → rounds (fun k_ c_ (s_ : Unit) => mclear_R26 img l at_ many k_ c_) (fun s_ => mclear_D26) m k () = some (lst (mbits img l at_) many.toNat) := by
    intro m
    induction m with
    | zero =>
      intro k hk hall
      show mclear_D26 = _
      unfold mclear_D26
      rw [lst_full fun j hj => hall j (by unfold nWords at hk; omega) (by omega)]
    | succ m ih =>
      intro k hk hall
      have hlt : 64 * (k : Int) < many := by unfold nWords at hk; omega
      have hkm : k ≤ 1000000000000 := by omega
      show mclear_R26 img l at_ many k _ = _
      unfold mclear_R26
      have hw := mwordAt_u64 (at_ := at_) (many := many) (k := k) hv
      obtain ⟨x, hx⟩ : ∃ x, bits .xor .u64 18446744073709551615 (mwordAt img l at_ many k) = x := ⟨_, rfl⟩
      have hxu : U64 x := by rw [← hx]; exact bits_u64 (by unfold U64; omega) hw
      have hbit : ∀ j, j < 64 → bitI x j = !(decide (64 * (k : Int) + j < many) && mbits img l at_ (64 * k + j)) := by
        intro j hj
        rw [← hx, bitI_xor (by unfold U64; omega) hw, bitI_ones hj, bitI_word hv hj hlt]
        simp
      refine bind_of rfl ?_
      rw [hx]
      have hxu' := hxu
      unfold U64 at hxu'
      have hc : Lib.ctz 64 x.toNat ≤ 64 := by
        by_cases h0 : x.toNat = 0
        · rw [h0]; exact Nat.le_refl _
        · exact Nat.le_of_lt (ctz_bit h0 (by omega)).1
      refine need_of (by omega) (need_of (by omega) (bind_of rfl (need_of (by omega) ?_)))
      have cont : (∀ j, j < 64 * (k + 1) → (j : Int) < many → mbits img l at_ j = true) → rounds (fun k_ c_ (s_ : Unit) => mclear_R26 img l at_ many k_ c_) (fun s_ => mclear_D26) m (k + 1) () = some (lst (mbits img l at_) many.toNat) := ih (k + 1) (by omega)
      by_cases h0 : x.toNat = 0
      · rw [h0, if_neg (by rw [show Lib.ctz 64 0 = 64 from rfl]; omega)]
        unfold mclear_J4
        rw [if_neg (by decide)]
        refine cont fun j hj hj2 => ?_
        by_cases hjk : j < 64 * k
        · exact hall j hjk hj2
        · have hb := hbit (j - 64 * k) (by omega)
          have hz : bitI x (j - 64 * k) = false := by unfold bitI; rw [h0]; simp
          rw [hz, decide_eq_true (by omega), Bool.true_and, show 64 * k + (j - 64 * k) = j by omega] at hb
          simpa using hb.symm
      · obtain ⟨c1, c2, c3⟩ := ctz_bit h0 (by omega)
        generalize Lib.ctz 64 x.toNat = c at *
        rw [if_pos (by omega)]
        have b1 : ∀ j, j < c → mbits img l at_ (64 * k + j) = true ∧ 64 * (k : Int) + j < many := by
          intro j hj
          have hb := hbit j (by omega)
          rw [show bitI x j = false from c3 j hj] at hb
          have hb' := hb.symm
          simp only [Bool.not_eq_false', Bool.and_eq_true, decide_eq_true_eq] at hb'
          exact ⟨hb'.2, hb'.1⟩
        have b2 := hbit c c1
        rw [show bitI x c = true from c2] at b2
        have hprev : ∀ j, j < 64 * k + c → (j : Int) < many → mbits img l at_ j = true := by
          intro j hj hj2
          by_cases hjk : j < 64 * k
          · exact hall j hjk hj2
          · have := (b1 (j - 64 * k) (by omega)).1
            rwa [show 64 * k + (j - 64 * k) = j by omega] at this
        unfold mclear_J4
        by_cases hr : 64 * (k : Int) + (c : Int) < many
        · rw [if_pos (decide_eq_true hr)]
          unfold mclear_X26
          have hf : mbits img l at_ (64 * k + c) = false := by
            rw [decide_eq_true hr, Bool.true_and] at b2
            simpa using b2.symm
          rw [lst_at (i := 64 * k + c) (by omega) hf (fun j hj => hprev j hj (by omega))]
          congr 2
        · rw [if_neg (by simpa using hr)]
          exact cont fun j hj hj2 => hprev j (by omega) hj2
  exact key (nWords many) 0 (by omega) (fun j hj => by omega)
end
end Go.Proofs.YtmmclabkkigiaaaDoor

namespace Go.Proofs.YtmmclabkkigiaaaDoor
open Go Go.RowKit
set_option linter.unusedSimpArgs false
set_option linter.unusedVariables false

def kU8 : Kind Int := ⟨5, 1, fun x => [.int .u8 x], by decide, fun _ => rfl, fun _ => rfl⟩
end Go.Proofs.YtmmclabkkigiaaaDoor

namespace Go.Proofs.YtmmclabkkigiaaaDoor
open Go Go.RowKit
set_option linter.unusedVariables false

def gb (img : List Int) (l : List (Int × Int)) (i : Nat) : Bool := bitI (vget img l ((i / 64 : Nat) : Int)) (i % 64)
theorem nodup_len : ∀ (n : Nat) (xs : List Int), xs.Nodup → (∀ x ∈ xs, 0 ≤ x ∧ x < (n : Int)) → xs.length ≤ n
  | 0, xs, _, h => by
    cases xs with
    | nil => simp
    | cons x xs => have := h x (by simp); omega
  | n + 1, xs, hn, h => by
    have h2 := nodup_len n (xs.erase (n : Int)) (hn.erase _) (fun x hx => by
      have h3 := h x (List.mem_of_mem_erase hx)
      have h4 : x ≠ (n : Int) := fun e => by subst e; exact absurd hx (hn.not_mem_erase)
      omega)
    have h5 := List.length_erase (a := (n : Int)) (l := xs)
    split at h5 <;> omega
theorem VOk.len {img : List Int} {l : List (Int × Int)} (h : VOk img l) : l.length ≤ img.length := by
  have h1 := nodup_len img.length (l.map (fun p : Int × Int => p.1)) h.keys (fun x hx => by
    obtain ⟨p, hp, rfl⟩ := List.mem_map.1 hx
    exact h.inside p hp)
  simpa using h1
end Go.Proofs.YtmmclabkkigiaaaDoor

set_option maxRecDepth 20000
namespace Go.Proofs.YtmmclabkkigiaaaDoor
open Go Go.RowKit
set_option linter.unusedSimpArgs false
set_option linter.unusedVariables false

theorem within_spec {n_ f_ t_ : Int} (B : Nat) (w : World) : Spec Tryd.prog 83 #[(.int .i64 n_), (.int .i64 f_), (.int .i64 t_)] B w [] (fun v H' => v = .bool (decide (f_ ≤ n_ ∧ n_ ≤ t_)) ∧ H' = []) := by
 refine spec_Q Tryd.func83 rfl fun hs => ?_
 refine W.sr fun K1 hK1 => ?_
 refine zE 1 (hK1 _ _ ?_)
 refine W.sr fun K2 hK2 => ?_
 refine zR 4 ?_
 rcases Bool.eq_false_or_eq_true (decide (n_ ≥ f_)) with h3 | h3
 ·
  have h3p := of_decide_eq_true h3
  refine zS 10 h3 ?_
  refine zS 9 h3 ?_
  refine zE 5 (hK2 _ _ ?_)
  refine W.ret ?_
  refine ret_of (.bool (decide (n_ ≤ t_))) (by kernel_rfl) ⟨_, ⟨congrArg Value.bool (decide_eq_decide.2 (by omega)), rfl⟩, hs⟩
 ·
  have h3p := of_decide_eq_false h3
  refine zS 10 h3 ?_
  refine zS 9 h3 ?_
  refine zE 5 (hK2 _ _ ?_)
  refine W.ret ?_
  refine ret_of (.bool false) (by kernel_rfl) ⟨_, ⟨congrArg Value.bool (decide_eq_false (by omega)).symm, rfl⟩, hs⟩

theorem may_spec {gw gi gb : Int} (B : Nat) (w : World) : Spec Tryd.prog 55 #[(.agg #[(.int .i64 gw), (.int .i64 gi), (.int .i64 gb)])] B w [] (fun v H' => v = .bool (decide (May gw gi gb)) ∧ H' = []) := by
 refine spec_Q Tryd.func55 rfl fun hs => ?_
 refine W.sr fun K1 hK1 => ?_
 refine zN [(.int .i64 gw), (.int .i64 gi), (.int .i64 gb)] 23 hs fun b4 w2 hs3 => ?_
 refine zE 1 (hK1 _ _ ?_)
 refine W.sr fun K5 hK5 => ?_
 refine zR 1 ?_
 refine zL ⟨b4, 0, none⟩ (.int .i64 gw) (hs3.cellAt 0 rfl rfl) ?_
 refine zC00 hs3 (within_spec (n_ := gw) (f_ := 1) (t_ := 4) B _) fun w6 hs8 => ?_
 refine zR 1 ?_
 rcases Bool.eq_false_or_eq_true (decide (1 ≤ gw ∧ gw ≤ 4)) with h9 | h9
 ·
  have h9p := of_decide_eq_true h9
  refine zS 6 h9 ?_
  refine zS 5 h9 ?_
  refine zR 1 ?_
  refine zL ⟨b4, 1, none⟩ (.int .i64 gi) (hs8.cellAt 0 rfl rfl) ?_
  refine zC00 hs8 (within_spec (n_ := gi) (f_ := 2) (t_ := 64) B _) fun w10 hs12 => ?_
  refine zR 2 ?_
  rcases Bool.eq_false_or_eq_true (decide (2 ≤ gi ∧ gi ≤ 64)) with h13 | h13
  ·
   have h13p := of_decide_eq_true h13
   refine zS 11 h13 ?_
   refine zS 9 h13 ?_
   refine zS 10 h13 ?_
   refine zR 1 ?_
   refine zL ⟨b4, 2, none⟩ (.int .i64 gb) (hs12.cellAt 0 rfl rfl) ?_
   refine zC00 hs12 (within_spec (n_ := gb) (f_ := 2) (t_ := 512) B _) fun w14 hs16 => ?_
   refine zE 2 (hK5 _ _ ?_)
   refine W.ret ?_
   have hs17 := St.tk0 hs16
   refine ret_of (.bool (decide (2 ≤ gb ∧ gb ≤ 512))) (by kernel_rfl) ⟨_, ⟨congrArg Value.bool (decide_eq_decide.2 (by unfold May; omega)), rfl⟩, hs17⟩
  ·
   have h13p := of_decide_eq_false h13
   refine zS 11 h13 ?_
   refine zS 9 h13 ?_
   refine zS 10 h13 ?_
   refine zE 5 (hK5 _ _ ?_)
   refine W.ret ?_
   have hs18 := St.tk0 hs12
   refine ret_of (.bool false) (by kernel_rfl) ⟨_, ⟨congrArg Value.bool (decide_eq_false (by unfold May; omega)).symm, rfl⟩, hs18⟩
 ·
  have h9p := of_decide_eq_false h9
  refine zS 6 h9 ?_
  refine zS 5 h9 ?_
  refine zE 10 (hK5 _ _ ?_)
  refine W.ret ?_
  have hs19 := St.tk0 hs8
  refine ret_of (.bool false) (by kernel_rfl) ⟨_, ⟨congrArg Value.bool (decide_eq_false (by unfold May; omega)).symm, rfl⟩, hs19⟩

theorem rmay_spec {gw gi gb : Int} (B : Nat) (w : World) : Spec Tryd.prog 44 #[(.agg #[(.int .i64 gw), (.int .i64 gi), (.int .i64 gb)])] B w [] (fun v H' => v = .bool (decide (May gw gi gb)) ∧ H' = []) := by
 refine spec_Q Tryd.func44 rfl fun hs => ?_
 refine W.sr fun K1 hK1 => ?_
 refine zN [(.int .i64 gw), (.int .i64 gi), (.int .i64 gb)] 34 hs fun b4 w2 hs3 => ?_
 refine zE 1 (hK1 _ _ ?_)
 refine W.sr fun K5 hK5 => ?_
 refine zR 1 ?_
 refine zL ⟨b4, 0, none⟩ (.int .i64 gw) (hs3.cellAt 0 rfl rfl) ?_
 refine zR 2 ?_
 rcases Bool.eq_false_or_eq_true (decide (gw ≥ 1)) with h6 | h6
 ·
  have h6p := of_decide_eq_true h6
  refine zS 6 h6 ?_
  refine zS 5 h6 ?_
  refine zR 1 ?_
  refine zL ⟨b4, 0, none⟩ (.int .i64 gw) (hs3.cellAt 0 rfl rfl) ?_
  refine zR 3 ?_
  rcases Bool.eq_false_or_eq_true (decide (gw ≤ 4)) with h7 | h7
  ·
   have h7p := of_decide_eq_true h7
   refine zS 11 h7 ?_
   refine zS 9 h7 ?_
   refine zS 10 h7 ?_
   refine zR 1 ?_
   refine zL ⟨b4, 1, none⟩ (.int .i64 gi) (hs3.cellAt 0 rfl rfl) ?_
   refine zR 3 ?_
   rcases Bool.eq_false_or_eq_true (decide (gi ≥ 2)) with h8 | h8
   ·
    have h8p := of_decide_eq_true h8
    refine zS 16 h8 ?_
    refine zS 14 h8 ?_
    refine zS 15 h8 ?_
    refine zR 1 ?_
    refine zL ⟨b4, 1, none⟩ (.int .i64 gi) (hs3.cellAt 0 rfl rfl) ?_
    refine zR 3 ?_
    rcases Bool.eq_false_or_eq_true (decide (gi ≤ 64)) with h9 | h9
    ·
     have h9p := of_decide_eq_true h9
     refine zS 21 h9 ?_
     refine zS 19 h9 ?_
     refine zS 20 h9 ?_
     refine zR 1 ?_
     refine zL ⟨b4, 2, none⟩ (.int .i64 gb) (hs3.cellAt 0 rfl rfl) ?_
     refine zR 3 ?_
     rcases Bool.eq_false_or_eq_true (decide (gb ≥ 2)) with h10 | h10
     ·
      have h10p := of_decide_eq_true h10
      refine zS 26 h10 ?_
      refine zS 24 h10 ?_
      refine zS 25 h10 ?_
      refine zR 1 ?_
      refine zL ⟨b4, 2, none⟩ (.int .i64 gb) (hs3.cellAt 0 rfl rfl) ?_
      refine zE 3 (hK5 _ _ ?_)
      refine W.ret ?_
      have hs11 := St.tk0 hs3
      refine ret_of (.bool (decide (gb ≤ 512))) (by kernel_rfl) ⟨_, ⟨congrArg Value.bool (decide_eq_decide.2 (by unfold May; omega)), rfl⟩, hs11⟩
     ·
      have h10p := of_decide_eq_false h10
      refine zS 26 h10 ?_
      refine zS 24 h10 ?_
      refine zS 25 h10 ?_
      refine zE 5 (hK5 _ _ ?_)
      refine W.ret ?_
      have hs12 := St.tk0 hs3
      refine ret_of (.bool false) (by kernel_rfl) ⟨_, ⟨congrArg Value.bool (decide_eq_false (by unfold May; omega)).symm, rfl⟩, hs12⟩
    ·
     have h9p := of_decide_eq_false h9
     refine zS 21 h9 ?_
     refine zS 19 h9 ?_
     refine zS 20 h9 ?_
     refine zE 10 (hK5 _ _ ?_)
     refine W.ret ?_
     have hs13 := St.tk0 hs3
     refine ret_of (.bool false) (by kernel_rfl) ⟨_, ⟨congrArg Value.bool (decide_eq_false (by unfold May; omega)).symm, rfl⟩, hs13⟩
   ·
    have h8p := of_decide_eq_false h8
    refine zS 16 h8 ?_
    refine zS 14 h8 ?_
    refine zS 15 h8 ?_
    refine zE 15 (hK5 _ _ ?_)
    refine W.ret ?_
    have hs14 := St.tk0 hs3
    refine ret_of (.bool false) (by kernel_rfl) ⟨_, ⟨congrArg Value.bool (decide_eq_false (by unfold May; omega)).symm, rfl⟩, hs14⟩
  ·
   have h7p := of_decide_eq_false h7
   refine zS 11 h7 ?_
   refine zS 9 h7 ?_
   refine zS 10 h7 ?_
   refine zE 20 (hK5 _ _ ?_)
   refine W.ret ?_
   have hs15 := St.tk0 hs3
   refine ret_of (.bool false) (by kernel_rfl) ⟨_, ⟨congrArg Value.bool (decide_eq_false (by unfold May; omega)).symm, rfl⟩, hs15⟩
 ·
  have h6p := of_decide_eq_false h6
  refine zS 6 h6 ?_
  refine zS 5 h6 ?_
  refine zE 25 (hK5 _ _ ?_)
  refine W.ret ?_
  have hs16 := St.tk0 hs3
  refine ret_of (.bool false) (by kernel_rfl) ⟨_, ⟨congrArg Value.bool (decide_eq_false (by unfold May; omega)).symm, rfl⟩, hs16⟩

end Go.Proofs.YtmmclabkkigiaaaDoor

set_option maxRecDepth 20000
namespace Go.Proofs.YtmmclabkkigiaaaDoor
open Go Go.RowKit
set_option linter.unusedSimpArgs false
set_option linter.unusedVariables false

theorem rows_spec {gw gi gb : Int} (B : Nat) (w : World) : Spec Tryd.prog 56 #[(.agg #[(.int .i64 gw), (.int .i64 gi), (.int .i64 gb)])] B w [] (fun v H' => v = (.agg #[(.int .u8 1), (.int .i64 8), (.int .i64 1), (.int .u8 2), (.int .i64 64), (.int .i64 4), (.int .u8 5), (.int .i64 208), (.int .i64 gw), (.int .u8 6), (.int .i64 8), (.int .i64 1), (.int .u8 7), (.int .i64 8), (.int .i64 1), (.int .u8 8), (.int .i64 16), (.int .i64 gi), (.int .u8 9), (.int .i64 8), (.int .i64 gb)]) ∧ H' = []) := by
 refine spec_Q Tryd.func56 rfl fun hs => ?_
 refine W.sr fun K1 hK1 => ?_
 refine zN [(.int .i64 gw), (.int .i64 gi), (.int .i64 gb)] 23 hs fun b4 w2 hs3 => ?_
 refine zN [(.int .u8 0), (.int .i64 0), (.int .i64 0), (.int .u8 0), (.int .i64 0), (.int .i64 0), (.int .u8 0), (.int .i64 0), (.int .i64 0), (.int .u8 0), (.int .i64 0), (.int .i64 0), (.int .u8 0), (.int .i64 0), (.int .i64 0), (.int .u8 0), (.int .i64 0), (.int .i64 0), (.int .u8 0), (.int .i64 0), (.int .i64 0)] 106 hs3 fun b7 w5 hs6 => ?_
 refine zD (hK1 _ _ ?_)
 refine W.sr fun K8 hK8 => ?_
 refine zR 3 ?_
 refine zL ⟨b4, 0, none⟩ (.int .i64 gw) (hs6.cellAt 1 rfl rfl) ?_
 refine zR 4 ?_
 refine zL ⟨b4, 1, none⟩ (.int .i64 gi) (hs6.cellAt 1 rfl rfl) ?_
 refine zR 2 ?_
 refine zL ⟨b4, 2, none⟩ (.int .i64 gb) (hs6.cellAt 1 rfl rfl) ?_
 refine zR 2 ?_
 refine ops_store (off := 0) (cs := [(.int .u8 0), (.int .i64 0), (.int .i64 0), (.int .u8 0), (.int .i64 0), (.int .i64 0), (.int .u8 0), (.int .i64 0), (.int .i64 0), (.int .u8 0), (.int .i64 0), (.int .i64 0), (.int .u8 0), (.int .i64 0), (.int .i64 0), (.int .u8 0), (.int .i64 0), (.int .i64 0), (.int .u8 0), (.int .i64 0), (.int .i64 0)]) (vs := [(.int .u8 1), (.int .i64 8), (.int .i64 1), (.int .u8 2), (.int .i64 64), (.int .i64 4), (.int .u8 5), (.int .i64 208), (.int .i64 gw), (.int .u8 6), (.int .i64 8), (.int .i64 1), (.int .u8 7), (.int .i64 8), (.int .i64 1), (.int .u8 8), (.int .i64 16), (.int .i64 gi), (.int .u8 9), (.int .i64 8), (.int .i64 gb)]) hs6 (by kernel_rfl) (by simp) rfl (fun w9 hs10 => ?_)
 have hs11 : St B w [] w9 [blk b7 (.cells [(.int .u8 1), (.int .i64 8), (.int .i64 1), (.int .u8 2), (.int .i64 64), (.int .i64 4), (.int .u8 5), (.int .i64 208), (.int .i64 gw), (.int .u8 6), (.int .i64 8), (.int .i64 1), (.int .u8 7), (.int .i64 8), (.int .i64 1), (.int .u8 8), (.int .i64 16), (.int .i64 gi), (.int .u8 9), (.int .i64 8), (.int .i64 gb)].toArray 106 (0, 0)), blk b4 (.cells [(.int .i64 gw), (.int .i64 gi), (.int .i64 gb)].toArray 23 (0, 0))] := hs10
 refine zD (hK8 _ _ ?_)
 refine W.ret ?_
 have hs12 := St.tk0 hs11
 refine ret_of (.agg #[(.int .u8 1), (.int .i64 8), (.int .i64 1), (.int .u8 2), (.int .i64 64), (.int .i64 4), (.int .u8 5), (.int .i64 208), (.int .i64 gw), (.int .u8 6), (.int .i64 8), (.int .i64 1), (.int .u8 7), (.int .i64 8), (.int .i64 1), (.int .u8 8), (.int .i64 16), (.int .i64 gi), (.int .u8 9), (.int .i64 8), (.int .i64 gb)]) (results_cell (ad := ⟨b7, 0, none⟩) (cs := [(.int .u8 1), (.int .i64 8), (.int .i64 1), (.int .u8 2), (.int .i64 64), (.int .i64 4), (.int .u8 5), (.int .i64 208), (.int .i64 gw), (.int .u8 6), (.int .i64 8), (.int .i64 1), (.int .u8 7), (.int .i64 8), (.int .i64 1), (.int .u8 8), (.int .i64 16), (.int .i64 gi), (.int .u8 9), (.int .i64 8), (.int .i64 gb)]) rfl (by kernel_rfl) (by kernel_rfl) (cells_sub (hs11.heapAt 0 rfl) rfl)) ⟨_, ⟨rfl, rfl⟩, hs12⟩

theorem lwords_spec {gw gi gb : Int} (B : Nat) (w : World) : Spec Tryd.prog 25 #[(.agg #[(.int .i64 gw), (.int .i64 gi), (.int .i64 gb)])] B w [] (fun v H' => v = .int .i64 (wordsOf gw gi gb) ∧ H' = []) := by
 refine spec_Q Tryd.func25 rfl fun hs => ?_
 refine W.sr fun K1 hK1 => ?_
 refine zN [(.int .i64 gw), (.int .i64 gi), (.int .i64 gb)] 23 hs fun b4 w2 hs3 => ?_
 refine zE 1 (hK1 _ _ ?_)
 refine W.seq fun K5 hK5 => ?_
 refine W.sr fun K6 hK6 => ?_
 refine ops_R (runs_loadAgg (ad := ⟨b4, 0, none⟩) (cs := [(.int .i64 gw), (.int .i64 gi), (.int .i64 gb)]) (by kernel_rfl) (cells_sub (hs3.heapAt 0 rfl) rfl)) ?_
 refine zC00 hs3 (may_spec (gw := gw) (gi := gi) (gb := gb) B _) fun w7 hs9 => ?_
 refine zE 1 (hK6 _ _ ?_)
 refine W.cond (!(decide (May gw gi gb))) (by kernel_rfl) (fun h10 => ?_) (fun h10 => ?_)
 ·
  have h10p : ¬ (May gw gi gb) := of_decide_eq_false (bnot_true h10)
  have hm : ¬ May gw gi gb := h10p
  refine W.sr fun K11 hK11 => ?_
  refine zE 1 (hK11 _ _ ?_)
  refine W.ret (ret_seq ?_)
  have hs12 := St.tk0 hs9
  refine ret_of (.int .i64 0) (by kernel_rfl) ⟨_, ⟨congrArg (Value.int .i64) (by first | contradiction | (simp only [wordsOf, if_pos hm]; omega) | (simp only [wordsOf, if_neg hm]; done)), rfl⟩, hs12⟩
 ·
  have h10p : May gw gi gb := of_decide_eq_true (bnot_false h10)
  have hm : May gw gi gb := h10p
  have hm_ : (1 ≤ gw ∧ gw ≤ 4) ∧ (2 ≤ gi ∧ gi ≤ 64) ∧ (2 ≤ gb ∧ gb ≤ 512) := hm
  refine W.skip ?_
  refine hK5 _ _ ?_
  refine W.seq fun K13 hK13 => ?_
  refine W.sr fun K14 hK14 => ?_
  refine ops_R (runs_loadAgg (ad := ⟨b4, 0, none⟩) (cs := [(.int .i64 gw), (.int .i64 gi), (.int .i64 gb)]) (by kernel_rfl) (cells_sub (hs9.heapAt 0 rfl) rfl)) ?_
  refine zC00 hs9 (rows_spec (gw := gw) (gi := gi) (gb := gb) B _) fun w15 hs17 => ?_
  refine zE 1 (hK14 _ _ ?_)
  refine W.block ?_
  refine W.loop_start ?_
  refine loopAt_round ?_
  refine W.sr fun K18 hK18 => ?_
  refine zE 1 (hK18 _ _ ?_)
  refine W.seq fun K19 hK19 => ?_
  refine W.cond_true true (by kernel_rfl) rfl ?_
  refine W.skip ?_
  refine hK19 _ _ ?_
  refine W.seq fun K20 hK20 => ?_
  refine W.block ?_
  refine W.sr fun K21 hK21 => ?_
  refine zR 1 ?_
  refine zN [(.int .u8 0), (.int .i64 0), (.int .i64 0)] 105 hs17 fun b24 w22 hs23 => ?_
  refine ops_store (off := 0) (cs := [(.int .u8 0), (.int .i64 0), (.int .i64 0)]) (vs := [(.int .u8 1), (.int .i64 8), (.int .i64 1)]) hs23 (by kernel_rfl) (by simp) rfl (fun w25 hs26 => ?_)
  have hs27 : St B w [] w25 [blk b24 (.cells [(.int .u8 1), (.int .i64 8), (.int .i64 1)].toArray 105 (0, 0)), blk b4 (.cells [(.int .i64 gw), (.int .i64 gi), (.int .i64 gb)].toArray 23 (0, 0))] := hs26
  refine zD (hK21 _ _ ?_)
  refine W.region ?_
  refine zR 2 ?_
  refine zL ⟨b24, 1, none⟩ (.int .i64 8) (hs27.cellAt 0 rfl rfl) ?_
  refine zR 1 ?_
  refine zL ⟨b24, 2, none⟩ (.int .i64 1) (hs27.cellAt 0 rfl rfl) ?_
  refine zE 3 ?_
  refine normal_block ?_
  refine hK20 _ _ ?_
  refine W.region ?_
  refine zE 2 ?_
  refine loopAt_next ?_
  refine loopAt_round ?_
  refine W.sr fun K28 hK28 => ?_
  refine zE 1 (hK28 _ _ ?_)
  refine W.seq fun K29 hK29 => ?_
  refine W.cond_true true (by kernel_rfl) rfl ?_
  refine W.skip ?_
  refine hK29 _ _ ?_
  refine W.seq fun K30 hK30 => ?_
  refine W.block ?_
  refine W.sr fun K31 hK31 => ?_
  refine zR 1 ?_
  refine zN [(.int .u8 0), (.int .i64 0), (.int .i64 0)] 105 hs27 fun b34 w32 hs33 => ?_
  refine ops_store (off := 0) (cs := [(.int .u8 0), (.int .i64 0), (.int .i64 0)]) (vs := [(.int .u8 2), (.int .i64 64), (.int .i64 4)]) hs33 (by kernel_rfl) (by simp) rfl (fun w35 hs36 => ?_)
  have hs37 : St B w [] w35 [blk b34 (.cells [(.int .u8 2), (.int .i64 64), (.int .i64 4)].toArray 105 (0, 0)), blk b24 (.cells [(.int .u8 1), (.int .i64 8), (.int .i64 1)].toArray 105 (0, 0)), blk b4 (.cells [(.int .i64 gw), (.int .i64 gi), (.int .i64 gb)].toArray 23 (0, 0))] := hs36
  refine zD (hK31 _ _ ?_)
  refine W.region ?_
  refine zR 2 ?_
  refine zL ⟨b34, 1, none⟩ (.int .i64 64) (hs37.cellAt 0 rfl rfl) ?_
  refine zR 1 ?_
  refine zL ⟨b34, 2, none⟩ (.int .i64 4) (hs37.cellAt 0 rfl rfl) ?_
  refine zE 3 ?_
  refine normal_block ?_
  refine hK30 _ _ ?_
  refine W.region ?_
  refine zE 2 ?_
  refine loopAt_next ?_
  refine loopAt_round ?_
  refine W.sr fun K38 hK38 => ?_
  refine zE 1 (hK38 _ _ ?_)
  refine W.seq fun K39 hK39 => ?_
  refine W.cond_true true (by kernel_rfl) rfl ?_
  refine W.skip ?_
  refine hK39 _ _ ?_
  refine W.seq fun K40 hK40 => ?_
  refine W.block ?_
  refine W.sr fun K41 hK41 => ?_
  refine zR 1 ?_
  refine zN [(.int .u8 0), (.int .i64 0), (.int .i64 0)] 105 hs37 fun b44 w42 hs43 => ?_
  refine ops_store (off := 0) (cs := [(.int .u8 0), (.int .i64 0), (.int .i64 0)]) (vs := [(.int .u8 5), (.int .i64 208), (.int .i64 gw)]) hs43 (by kernel_rfl) (by simp) rfl (fun w45 hs46 => ?_)
  have hs47 : St B w [] w45 [blk b44 (.cells [(.int .u8 5), (.int .i64 208), (.int .i64 gw)].toArray 105 (0, 0)), blk b34 (.cells [(.int .u8 2), (.int .i64 64), (.int .i64 4)].toArray 105 (0, 0)), blk b24 (.cells [(.int .u8 1), (.int .i64 8), (.int .i64 1)].toArray 105 (0, 0)), blk b4 (.cells [(.int .i64 gw), (.int .i64 gi), (.int .i64 gb)].toArray 23 (0, 0))] := hs46
  refine zD (hK41 _ _ ?_)
  refine W.region ?_
  refine zR 2 ?_
  refine zL ⟨b44, 1, none⟩ (.int .i64 208) (hs47.cellAt 0 rfl rfl) ?_
  refine zR 1 ?_
  refine zL ⟨b44, 2, none⟩ (.int .i64 gw) (hs47.cellAt 0 rfl rfl) ?_
  refine zI (208 * gw) (wrap_i64 (by omega) (by omega)) ?_
  refine zI (264 + (208 * gw)) (wrap_i64 (by omega) (by omega)) ?_
  refine zE 1 ?_
  refine normal_block ?_
  refine hK40 _ _ ?_
  refine W.region ?_
  refine zE 2 ?_
  refine loopAt_next ?_
  refine loopAt_round ?_
  refine W.sr fun K48 hK48 => ?_
  refine zE 1 (hK48 _ _ ?_)
  refine W.seq fun K49 hK49 => ?_
  refine W.cond_true true (by kernel_rfl) rfl ?_
  refine W.skip ?_
  refine hK49 _ _ ?_
  refine W.seq fun K50 hK50 => ?_
  refine W.block ?_
  refine W.sr fun K51 hK51 => ?_
  refine zR 1 ?_
  refine zN [(.int .u8 0), (.int .i64 0), (.int .i64 0)] 105 hs47 fun b54 w52 hs53 => ?_
  refine ops_store (off := 0) (cs := [(.int .u8 0), (.int .i64 0), (.int .i64 0)]) (vs := [(.int .u8 6), (.int .i64 8), (.int .i64 1)]) hs53 (by kernel_rfl) (by simp) rfl (fun w55 hs56 => ?_)
  have hs57 : St B w [] w55 [blk b54 (.cells [(.int .u8 6), (.int .i64 8), (.int .i64 1)].toArray 105 (0, 0)), blk b44 (.cells [(.int .u8 5), (.int .i64 208), (.int .i64 gw)].toArray 105 (0, 0)), blk b34 (.cells [(.int .u8 2), (.int .i64 64), (.int .i64 4)].toArray 105 (0, 0)), blk b24 (.cells [(.int .u8 1), (.int .i64 8), (.int .i64 1)].toArray 105 (0, 0)), blk b4 (.cells [(.int .i64 gw), (.int .i64 gi), (.int .i64 gb)].toArray 23 (0, 0))] := hs56
  refine zD (hK51 _ _ ?_)
  refine W.region ?_
  refine zR 2 ?_
  refine zL ⟨b54, 1, none⟩ (.int .i64 8) (hs57.cellAt 0 rfl rfl) ?_
  refine zR 1 ?_
  refine zL ⟨b54, 2, none⟩ (.int .i64 1) (hs57.cellAt 0 rfl rfl) ?_
  refine zR 1 ?_
  refine zI ((264 + (208 * gw)) + 8) (wrap_i64 (by omega) (by omega)) ?_
  refine zE 1 ?_
  refine normal_block ?_
  refine hK50 _ _ ?_
  refine W.region ?_
  refine zE 2 ?_
  refine loopAt_next ?_
  refine loopAt_round ?_
  refine W.sr fun K58 hK58 => ?_
  refine zE 1 (hK58 _ _ ?_)
  refine W.seq fun K59 hK59 => ?_
  refine W.cond_true true (by kernel_rfl) rfl ?_
  refine W.skip ?_
  refine hK59 _ _ ?_
  refine W.seq fun K60 hK60 => ?_
  refine W.block ?_
  refine W.sr fun K61 hK61 => ?_
  refine zR 1 ?_
  refine zN [(.int .u8 0), (.int .i64 0), (.int .i64 0)] 105 hs57 fun b64 w62 hs63 => ?_
  refine ops_store (off := 0) (cs := [(.int .u8 0), (.int .i64 0), (.int .i64 0)]) (vs := [(.int .u8 7), (.int .i64 8), (.int .i64 1)]) hs63 (by kernel_rfl) (by simp) rfl (fun w65 hs66 => ?_)
  have hs67 : St B w [] w65 [blk b64 (.cells [(.int .u8 7), (.int .i64 8), (.int .i64 1)].toArray 105 (0, 0)), blk b54 (.cells [(.int .u8 6), (.int .i64 8), (.int .i64 1)].toArray 105 (0, 0)), blk b44 (.cells [(.int .u8 5), (.int .i64 208), (.int .i64 gw)].toArray 105 (0, 0)), blk b34 (.cells [(.int .u8 2), (.int .i64 64), (.int .i64 4)].toArray 105 (0, 0)), blk b24 (.cells [(.int .u8 1), (.int .i64 8), (.int .i64 1)].toArray 105 (0, 0)), blk b4 (.cells [(.int .i64 gw), (.int .i64 gi), (.int .i64 gb)].toArray 23 (0, 0))] := hs66
  refine zD (hK61 _ _ ?_)
  refine W.region ?_
  refine zR 2 ?_
  refine zL ⟨b64, 1, none⟩ (.int .i64 8) (hs67.cellAt 0 rfl rfl) ?_
  refine zR 1 ?_
  refine zL ⟨b64, 2, none⟩ (.int .i64 1) (hs67.cellAt 0 rfl rfl) ?_
  refine zR 1 ?_
  refine zI (((264 + (208 * gw)) + 8) + 8) (wrap_i64 (by omega) (by omega)) ?_
  refine zE 1 ?_
  refine normal_block ?_
  refine hK60 _ _ ?_
  refine W.region ?_
  refine zE 2 ?_
  refine loopAt_next ?_
  refine loopAt_round ?_
  refine W.sr fun K68 hK68 => ?_
  refine zE 1 (hK68 _ _ ?_)
  refine W.seq fun K69 hK69 => ?_
  refine W.cond_true true (by kernel_rfl) rfl ?_
  refine W.skip ?_
  refine hK69 _ _ ?_
  refine W.seq fun K70 hK70 => ?_
  refine W.block ?_
  refine W.sr fun K71 hK71 => ?_
  refine zR 1 ?_
  refine zN [(.int .u8 0), (.int .i64 0), (.int .i64 0)] 105 hs67 fun b74 w72 hs73 => ?_
  refine ops_store (off := 0) (cs := [(.int .u8 0), (.int .i64 0), (.int .i64 0)]) (vs := [(.int .u8 8), (.int .i64 16), (.int .i64 gi)]) hs73 (by kernel_rfl) (by simp) rfl (fun w75 hs76 => ?_)
  have hs77 : St B w [] w75 [blk b74 (.cells [(.int .u8 8), (.int .i64 16), (.int .i64 gi)].toArray 105 (0, 0)), blk b64 (.cells [(.int .u8 7), (.int .i64 8), (.int .i64 1)].toArray 105 (0, 0)), blk b54 (.cells [(.int .u8 6), (.int .i64 8), (.int .i64 1)].toArray 105 (0, 0)), blk b44 (.cells [(.int .u8 5), (.int .i64 208), (.int .i64 gw)].toArray 105 (0, 0)), blk b34 (.cells [(.int .u8 2), (.int .i64 64), (.int .i64 4)].toArray 105 (0, 0)), blk b24 (.cells [(.int .u8 1), (.int .i64 8), (.int .i64 1)].toArray 105 (0, 0)), blk b4 (.cells [(.int .i64 gw), (.int .i64 gi), (.int .i64 gb)].toArray 23 (0, 0))] := hs76
  refine zD (hK71 _ _ ?_)
  refine W.region ?_
  refine zR 2 ?_
  refine zL ⟨b74, 1, none⟩ (.int .i64 16) (hs77.cellAt 0 rfl rfl) ?_
  refine zR 1 ?_
  refine zL ⟨b74, 2, none⟩ (.int .i64 gi) (hs77.cellAt 0 rfl rfl) ?_
  refine zI (16 * gi) (wrap_i64 (by omega) (by omega)) ?_
  refine zI ((((264 + (208 * gw)) + 8) + 8) + (16 * gi)) (wrap_i64 (by omega) (by omega)) ?_
  refine zE 1 ?_
  refine normal_block ?_
  refine hK70 _ _ ?_
  refine W.region ?_
  refine zE 2 ?_
  refine loopAt_next ?_
  refine loopAt_round ?_
  refine W.sr fun K78 hK78 => ?_
  refine zE 1 (hK78 _ _ ?_)
  refine W.seq fun K79 hK79 => ?_
  refine W.cond_true true (by kernel_rfl) rfl ?_
  refine W.skip ?_
  refine hK79 _ _ ?_
  refine W.seq fun K80 hK80 => ?_
  refine W.block ?_
  refine W.sr fun K81 hK81 => ?_
  refine zR 1 ?_
  refine zN [(.int .u8 0), (.int .i64 0), (.int .i64 0)] 105 hs77 fun b84 w82 hs83 => ?_
  refine ops_store (off := 0) (cs := [(.int .u8 0), (.int .i64 0), (.int .i64 0)]) (vs := [(.int .u8 9), (.int .i64 8), (.int .i64 gb)]) hs83 (by kernel_rfl) (by simp) rfl (fun w85 hs86 => ?_)
  have hs87 : St B w [] w85 [blk b84 (.cells [(.int .u8 9), (.int .i64 8), (.int .i64 gb)].toArray 105 (0, 0)), blk b74 (.cells [(.int .u8 8), (.int .i64 16), (.int .i64 gi)].toArray 105 (0, 0)), blk b64 (.cells [(.int .u8 7), (.int .i64 8), (.int .i64 1)].toArray 105 (0, 0)), blk b54 (.cells [(.int .u8 6), (.int .i64 8), (.int .i64 1)].toArray 105 (0, 0)), blk b44 (.cells [(.int .u8 5), (.int .i64 208), (.int .i64 gw)].toArray 105 (0, 0)), blk b34 (.cells [(.int .u8 2), (.int .i64 64), (.int .i64 4)].toArray 105 (0, 0)), blk b24 (.cells [(.int .u8 1), (.int .i64 8), (.int .i64 1)].toArray 105 (0, 0)), blk b4 (.cells [(.int .i64 gw), (.int .i64 gi), (.int .i64 gb)].toArray 23 (0, 0))] := hs86
  refine zD (hK81 _ _ ?_)
  refine W.region ?_
  refine zR 2 ?_
  refine zL ⟨b84, 1, none⟩ (.int .i64 8) (hs87.cellAt 0 rfl rfl) ?_
  refine zR 1 ?_
  refine zL ⟨b84, 2, none⟩ (.int .i64 gb) (hs87.cellAt 0 rfl rfl) ?_
  refine zI (8 * gb) (wrap_i64 (by omega) (by omega)) ?_
  refine zI (((((264 + (208 * gw)) + 8) + 8) + (16 * gi)) + (8 * gb)) (wrap_i64 (by omega) (by omega)) ?_
  refine zE 1 ?_
  refine normal_block ?_
  refine hK80 _ _ ?_
  refine W.region ?_
  refine zE 2 ?_
  refine loopAt_next ?_
  refine loopAt_round ?_
  refine W.sr fun K88 hK88 => ?_
  refine zE 1 (hK88 _ _ ?_)
  refine W.seq fun K89 hK89 => ?_
  refine W.cond_false false (by kernel_rfl) rfl ?_
  refine W.exit (exit_seq (exit_seq (exit_here ?_)))
  refine hK13 _ _ ?_
  refine W.sr fun K90 hK90 => ?_
  refine zE 2 (hK90 _ _ ?_)
  refine W.ret ?_
  have hs91 := St.tk0 hs87
  refine ret_of (.int .i64 (((((264 + (208 * gw)) + 8) + 8) + (16 * gi)) + (8 * gb))) (by kernel_rfl) ⟨_, ⟨congrArg (Value.int .i64) (by first | contradiction | (simp only [wordsOf, if_pos hm]; omega) | (simp only [wordsOf, if_neg hm]; done)), rfl⟩, hs91⟩

theorem place6_may {gw gi gb n_ : Int} (B : Nat) (w : World) (hm : May gw gi gb) : Spec Tryd.prog 53 #[(.agg #[(.int .i64 gw), (.int .i64 gi), (.int .i64 gb)]), (.int .u8 6), (.int .i64 n_)] B w [] (fun v H' => v = .int .i64 (placeOf 6 gw gi gb n_) ∧ H' = []) := by
 refine spec_Q Tryd.func53 rfl fun hs => ?_
 have hm_ : (1 ≤ gw ∧ gw ≤ 4) ∧ (2 ≤ gi ∧ gi ≤ 64) ∧ (2 ≤ gb ∧ gb ≤ 512) := hm
 refine W.sr fun K1 hK1 => ?_
 refine zN [(.int .i64 gw), (.int .i64 gi), (.int .i64 gb)] 23 hs fun b4 w2 hs3 => ?_
 refine zE 1 (hK1 _ _ ?_)
 refine W.sr fun K5 hK5 => ?_
 refine zE 1 (hK5 _ _ ?_)
 refine W.seq fun K6 hK6 => ?_
 refine W.sr fun K7 hK7 => ?_
 refine ops_R (runs_loadAgg (ad := ⟨b4, 0, none⟩) (cs := [(.int .i64 gw), (.int .i64 gi), (.int .i64 gb)]) (by kernel_rfl) (cells_sub (hs3.heapAt 0 rfl) rfl)) ?_
 refine zC00 hs3 (rows_spec (gw := gw) (gi := gi) (gb := gb) B _) fun w8 hs10 => ?_
 refine zE 1 (hK7 _ _ ?_)
 refine W.block ?_
 refine W.loop_start ?_
 refine loopAt_round ?_
 refine W.sr fun K11 hK11 => ?_
 refine zE 1 (hK11 _ _ ?_)
 refine W.seq fun K12 hK12 => ?_
 refine W.cond_true true (by kernel_rfl) rfl ?_
 refine W.skip ?_
 refine hK12 _ _ ?_
 refine W.seq fun K13 hK13 => ?_
 refine W.block ?_
 refine W.sr fun K14 hK14 => ?_
 refine zR 1 ?_
 refine zN [(.int .u8 0), (.int .i64 0), (.int .i64 0)] 105 hs10 fun b17 w15 hs16 => ?_
 refine ops_store (off := 0) (cs := [(.int .u8 0), (.int .i64 0), (.int .i64 0)]) (vs := [(.int .u8 1), (.int .i64 8), (.int .i64 1)]) hs16 (by kernel_rfl) (by simp) rfl (fun w18 hs19 => ?_)
 have hs20 : St B w [] w18 [blk b17 (.cells [(.int .u8 1), (.int .i64 8), (.int .i64 1)].toArray 105 (0, 0)), blk b4 (.cells [(.int .i64 gw), (.int .i64 gi), (.int .i64 gb)].toArray 23 (0, 0))] := hs19
 refine zD (hK14 _ _ ?_)
 refine W.seq fun K21 hK21 => ?_
 refine W.sr fun K22 hK22 => ?_
 refine zR 1 ?_
 refine zL ⟨b17, 0, none⟩ (.int .u8 1) (hs20.cellAt 0 rfl rfl) ?_
 refine zE 2 (hK22 _ _ ?_)
 refine W.cond_true true (by kernel_rfl) rfl ?_
 refine W.sr fun K23 hK23 => ?_
 refine zR 2 ?_
 refine zL ⟨b17, 1, none⟩ (.int .i64 8) (hs20.cellAt 0 rfl rfl) ?_
 refine zR 1 ?_
 refine zL ⟨b17, 2, none⟩ (.int .i64 1) (hs20.cellAt 0 rfl rfl) ?_
 refine zE 3 (hK23 _ _ ?_)
 refine W.exit (exit_seq (exit_here ?_))
 refine hK13 _ _ ?_
 refine W.region ?_
 refine zE 2 ?_
 refine loopAt_next ?_
 refine loopAt_round ?_
 refine W.sr fun K24 hK24 => ?_
 refine zE 1 (hK24 _ _ ?_)
 refine W.seq fun K25 hK25 => ?_
 refine W.cond_true true (by kernel_rfl) rfl ?_
 refine W.skip ?_
 refine hK25 _ _ ?_
 refine W.seq fun K26 hK26 => ?_
 refine W.block ?_
 refine W.sr fun K27 hK27 => ?_
 refine zR 1 ?_
 refine zN [(.int .u8 0), (.int .i64 0), (.int .i64 0)] 105 hs20 fun b30 w28 hs29 => ?_
 refine ops_store (off := 0) (cs := [(.int .u8 0), (.int .i64 0), (.int .i64 0)]) (vs := [(.int .u8 2), (.int .i64 64), (.int .i64 4)]) hs29 (by kernel_rfl) (by simp) rfl (fun w31 hs32 => ?_)
 have hs33 : St B w [] w31 [blk b30 (.cells [(.int .u8 2), (.int .i64 64), (.int .i64 4)].toArray 105 (0, 0)), blk b17 (.cells [(.int .u8 1), (.int .i64 8), (.int .i64 1)].toArray 105 (0, 0)), blk b4 (.cells [(.int .i64 gw), (.int .i64 gi), (.int .i64 gb)].toArray 23 (0, 0))] := hs32
 refine zD (hK27 _ _ ?_)
 refine W.seq fun K34 hK34 => ?_
 refine W.sr fun K35 hK35 => ?_
 refine zR 1 ?_
 refine zL ⟨b30, 0, none⟩ (.int .u8 2) (hs33.cellAt 0 rfl rfl) ?_
 refine zE 2 (hK35 _ _ ?_)
 refine W.cond_true true (by kernel_rfl) rfl ?_
 refine W.sr fun K36 hK36 => ?_
 refine zR 2 ?_
 refine zL ⟨b30, 1, none⟩ (.int .i64 64) (hs33.cellAt 0 rfl rfl) ?_
 refine zR 1 ?_
 refine zL ⟨b30, 2, none⟩ (.int .i64 4) (hs33.cellAt 0 rfl rfl) ?_
 refine zE 3 (hK36 _ _ ?_)
 refine W.exit (exit_seq (exit_here ?_))
 refine hK26 _ _ ?_
 refine W.region ?_
 refine zE 2 ?_
 refine loopAt_next ?_
 refine loopAt_round ?_
 refine W.sr fun K37 hK37 => ?_
 refine zE 1 (hK37 _ _ ?_)
 refine W.seq fun K38 hK38 => ?_
 refine W.cond_true true (by kernel_rfl) rfl ?_
 refine W.skip ?_
 refine hK38 _ _ ?_
 refine W.seq fun K39 hK39 => ?_
 refine W.block ?_
 refine W.sr fun K40 hK40 => ?_
 refine zR 1 ?_
 refine zN [(.int .u8 0), (.int .i64 0), (.int .i64 0)] 105 hs33 fun b43 w41 hs42 => ?_
 refine ops_store (off := 0) (cs := [(.int .u8 0), (.int .i64 0), (.int .i64 0)]) (vs := [(.int .u8 5), (.int .i64 208), (.int .i64 gw)]) hs42 (by kernel_rfl) (by simp) rfl (fun w44 hs45 => ?_)
 have hs46 : St B w [] w44 [blk b43 (.cells [(.int .u8 5), (.int .i64 208), (.int .i64 gw)].toArray 105 (0, 0)), blk b30 (.cells [(.int .u8 2), (.int .i64 64), (.int .i64 4)].toArray 105 (0, 0)), blk b17 (.cells [(.int .u8 1), (.int .i64 8), (.int .i64 1)].toArray 105 (0, 0)), blk b4 (.cells [(.int .i64 gw), (.int .i64 gi), (.int .i64 gb)].toArray 23 (0, 0))] := hs45
 refine zD (hK40 _ _ ?_)
 refine W.seq fun K47 hK47 => ?_
 refine W.sr fun K48 hK48 => ?_
 refine zR 1 ?_
 refine zL ⟨b43, 0, none⟩ (.int .u8 5) (hs46.cellAt 0 rfl rfl) ?_
 refine zE 2 (hK48 _ _ ?_)
 refine W.cond_true true (by kernel_rfl) rfl ?_
 refine W.sr fun K49 hK49 => ?_
 refine zR 2 ?_
 refine zL ⟨b43, 1, none⟩ (.int .i64 208) (hs46.cellAt 0 rfl rfl) ?_
 refine zR 1 ?_
 refine zL ⟨b43, 2, none⟩ (.int .i64 gw) (hs46.cellAt 0 rfl rfl) ?_
 refine zI (208 * gw) (wrap_i64 (by omega) (by omega)) ?_
 refine zI (264 + (208 * gw)) (wrap_i64 (by omega) (by omega)) ?_
 refine zE 1 (hK49 _ _ ?_)
 refine W.exit (exit_seq (exit_here ?_))
 refine hK39 _ _ ?_
 refine W.region ?_
 refine zE 2 ?_
 refine loopAt_next ?_
 refine loopAt_round ?_
 refine W.sr fun K50 hK50 => ?_
 refine zE 1 (hK50 _ _ ?_)
 refine W.seq fun K51 hK51 => ?_
 refine W.cond_true true (by kernel_rfl) rfl ?_
 refine W.skip ?_
 refine hK51 _ _ ?_
 refine W.seq fun K52 hK52 => ?_
 refine W.block ?_
 refine W.sr fun K53 hK53 => ?_
 refine zR 1 ?_
 refine zN [(.int .u8 0), (.int .i64 0), (.int .i64 0)] 105 hs46 fun b56 w54 hs55 => ?_
 refine ops_store (off := 0) (cs := [(.int .u8 0), (.int .i64 0), (.int .i64 0)]) (vs := [(.int .u8 6), (.int .i64 8), (.int .i64 1)]) hs55 (by kernel_rfl) (by simp) rfl (fun w57 hs58 => ?_)
 have hs59 : St B w [] w57 [blk b56 (.cells [(.int .u8 6), (.int .i64 8), (.int .i64 1)].toArray 105 (0, 0)), blk b43 (.cells [(.int .u8 5), (.int .i64 208), (.int .i64 gw)].toArray 105 (0, 0)), blk b30 (.cells [(.int .u8 2), (.int .i64 64), (.int .i64 4)].toArray 105 (0, 0)), blk b17 (.cells [(.int .u8 1), (.int .i64 8), (.int .i64 1)].toArray 105 (0, 0)), blk b4 (.cells [(.int .i64 gw), (.int .i64 gi), (.int .i64 gb)].toArray 23 (0, 0))] := hs58
 refine zD (hK53 _ _ ?_)
 refine W.seq fun K60 hK60 => ?_
 refine W.sr fun K61 hK61 => ?_
 refine zR 1 ?_
 refine zL ⟨b56, 0, none⟩ (.int .u8 6) (hs59.cellAt 0 rfl rfl) ?_
 refine zE 2 (hK61 _ _ ?_)
 refine W.cond_false false (by kernel_rfl) rfl ?_
 refine W.skip ?_
 refine hK60 _ _ ?_
 refine W.seq fun K62 hK62 => ?_
 refine W.sr fun K63 hK63 => ?_
 refine ops_R (runs_loadAgg (ad := ⟨b4, 0, none⟩) (cs := [(.int .i64 gw), (.int .i64 gi), (.int .i64 gb)]) (by kernel_rfl) (cells_sub (hs59.heapAt 4 rfl) rfl)) ?_
 refine zC00 hs59 (may_spec (gw := gw) (gi := gi) (gb := gb) B _) fun w64 hs66 => ?_
 refine zR 1 ?_
 rcases Bool.eq_false_or_eq_true (decide (May gw gi gb)) with h67 | h67
 ·
  have h67p := of_decide_eq_true h67
  refine zS 28 h67 ?_
  refine zS 27 h67 ?_
  refine zR 2 ?_
  refine zL ⟨b56, 2, none⟩ (.int .i64 1) (hs66.cellAt 0 rfl rfl) ?_
  refine zR 1 ?_
  refine zC00 hs66 (within_spec (n_ := n_) (f_ := 0) (t_ := 0) B _) fun w68 hs70 => ?_
  refine zE 1 (hK63 _ _ ?_)
  refine W.cond (decide (0 ≤ n_ ∧ n_ ≤ 0)) (by kernel_rfl) (fun h71 => ?_) (fun h71 => ?_)
  ·
   have h71p := of_decide_eq_true h71
   refine W.sr fun K72 hK72 => ?_
   refine zR 2 ?_
   refine zL ⟨b56, 1, none⟩ (.int .i64 8) (hs70.cellAt 0 rfl rfl) ?_
   refine zR 1 ?_
   refine zI (8 * n_) (wrap_i64 (by omega) (by omega)) ?_
   refine zI ((264 + (208 * gw)) + (8 * n_)) (wrap_i64 (by omega) (by omega)) ?_
   refine zE 1 (hK72 _ _ ?_)
   refine W.ret (ret_seq (ret_block (ret_seq (ret_seq (ret_block (ret_seq ?_))))))
   have hs73 := St.tk0 hs70
   refine ret_of (.int .i64 ((264 + (208 * gw)) + (8 * n_))) (by kernel_rfl) ⟨_, ⟨congrArg (Value.int .i64) (by first | contradiction | (simp only [placeOf, if_pos hm]; split <;> omega) | (simp only [placeOf, if_neg hm]; done) | (simp only [placeOf, if_pos hm]; omega)), rfl⟩, hs73⟩
  ·
   have h71p := of_decide_eq_false h71
   refine W.skip ?_
   refine hK62 _ _ ?_
   refine W.exit (exit_block (by decide) (exit_seq (exit_seq (exit_here ?_))))
   refine hK6 _ _ ?_
   refine W.sr fun K74 hK74 => ?_
   refine zE 1 (hK74 _ _ ?_)
   refine W.ret ?_
   have hs75 := St.tk0 hs70
   refine ret_of (.int .i64 (-1)) (by kernel_rfl) ⟨_, ⟨congrArg (Value.int .i64) (by first | contradiction | (simp only [placeOf, if_pos hm]; split <;> omega) | (simp only [placeOf, if_neg hm]; done) | (simp only [placeOf, if_pos hm]; omega)), rfl⟩, hs75⟩
 ·
  have h67p := of_decide_eq_false h67
  refine zS 28 h67 ?_
  refine zS 27 h67 ?_
  refine zE 6 (hK63 _ _ ?_)
  refine W.cond_false false (by kernel_rfl) rfl ?_
  refine W.skip ?_
  refine hK62 _ _ ?_
  refine W.exit (exit_block (by decide) (exit_seq (exit_seq (exit_here ?_))))
  refine hK6 _ _ ?_
  refine W.sr fun K76 hK76 => ?_
  refine zE 1 (hK76 _ _ ?_)
  refine W.ret ?_
  have hs77 := St.tk0 hs66
  refine ret_of (.int .i64 (-1)) (by kernel_rfl) ⟨_, ⟨congrArg (Value.int .i64) (by first | contradiction | (simp only [placeOf, if_pos hm]; split <;> omega) | (simp only [placeOf, if_neg hm]; done) | (simp only [placeOf, if_pos hm]; omega)), rfl⟩, hs77⟩

theorem place6_not {gw gi gb n_ : Int} (B : Nat) (w : World) (hm : ¬ May gw gi gb) : Spec Tryd.prog 53 #[(.agg #[(.int .i64 gw), (.int .i64 gi), (.int .i64 gb)]), (.int .u8 6), (.int .i64 n_)] B w [] (fun v H' => v = .int .i64 (placeOf 6 gw gi gb n_) ∧ H' = []) := by
 refine spec_Q Tryd.func53 rfl fun hs => ?_
 refine W.sr fun K1 hK1 => ?_
 refine zN [(.int .i64 gw), (.int .i64 gi), (.int .i64 gb)] 23 hs fun b4 w2 hs3 => ?_
 refine zE 1 (hK1 _ _ ?_)
 refine W.sr fun K5 hK5 => ?_
 refine zE 1 (hK5 _ _ ?_)
 refine W.seq fun K6 hK6 => ?_
 refine W.sr fun K7 hK7 => ?_
 refine ops_R (runs_loadAgg (ad := ⟨b4, 0, none⟩) (cs := [(.int .i64 gw), (.int .i64 gi), (.int .i64 gb)]) (by kernel_rfl) (cells_sub (hs3.heapAt 0 rfl) rfl)) ?_
 refine zC00 hs3 (rows_spec (gw := gw) (gi := gi) (gb := gb) B _) fun w8 hs10 => ?_
 refine zE 1 (hK7 _ _ ?_)
 refine W.block ?_
 refine W.loop_start ?_
 refine loopAt_round ?_
 refine W.sr fun K11 hK11 => ?_
 refine zE 1 (hK11 _ _ ?_)
 refine W.seq fun K12 hK12 => ?_
 refine W.cond_true true (by kernel_rfl) rfl ?_
 refine W.skip ?_
 refine hK12 _ _ ?_
 refine W.seq fun K13 hK13 => ?_
 refine W.block ?_
 refine W.sr fun K14 hK14 => ?_
 refine zR 1 ?_
 refine zN [(.int .u8 0), (.int .i64 0), (.int .i64 0)] 105 hs10 fun b17 w15 hs16 => ?_
 refine ops_store (off := 0) (cs := [(.int .u8 0), (.int .i64 0), (.int .i64 0)]) (vs := [(.int .u8 1), (.int .i64 8), (.int .i64 1)]) hs16 (by kernel_rfl) (by simp) rfl (fun w18 hs19 => ?_)
 have hs20 : St B w [] w18 [blk b17 (.cells [(.int .u8 1), (.int .i64 8), (.int .i64 1)].toArray 105 (0, 0)), blk b4 (.cells [(.int .i64 gw), (.int .i64 gi), (.int .i64 gb)].toArray 23 (0, 0))] := hs19
 refine zD (hK14 _ _ ?_)
 refine W.seq fun K21 hK21 => ?_
 refine W.sr fun K22 hK22 => ?_
 refine zR 1 ?_
 refine zL ⟨b17, 0, none⟩ (.int .u8 1) (hs20.cellAt 0 rfl rfl) ?_
 refine zE 2 (hK22 _ _ ?_)
 refine W.cond_true true (by kernel_rfl) rfl ?_
 refine W.sr fun K23 hK23 => ?_
 refine zR 2 ?_
 refine zL ⟨b17, 1, none⟩ (.int .i64 8) (hs20.cellAt 0 rfl rfl) ?_
 refine zR 1 ?_
 refine zL ⟨b17, 2, none⟩ (.int .i64 1) (hs20.cellAt 0 rfl rfl) ?_
 refine zE 3 (hK23 _ _ ?_)
 refine W.exit (exit_seq (exit_here ?_))
 refine hK13 _ _ ?_
 refine W.region ?_
 refine zE 2 ?_
 refine loopAt_next ?_
 refine loopAt_round ?_
 refine W.sr fun K24 hK24 => ?_
 refine zE 1 (hK24 _ _ ?_)
 refine W.seq fun K25 hK25 => ?_
 refine W.cond_true true (by kernel_rfl) rfl ?_
 refine W.skip ?_
 refine hK25 _ _ ?_
 refine W.seq fun K26 hK26 => ?_
 refine W.block ?_
 refine W.sr fun K27 hK27 => ?_
 refine zR 1 ?_
 refine zN [(.int .u8 0), (.int .i64 0), (.int .i64 0)] 105 hs20 fun b30 w28 hs29 => ?_
 refine ops_store (off := 0) (cs := [(.int .u8 0), (.int .i64 0), (.int .i64 0)]) (vs := [(.int .u8 2), (.int .i64 64), (.int .i64 4)]) hs29 (by kernel_rfl) (by simp) rfl (fun w31 hs32 => ?_)
 have hs33 : St B w [] w31 [blk b30 (.cells [(.int .u8 2), (.int .i64 64), (.int .i64 4)].toArray 105 (0, 0)), blk b17 (.cells [(.int .u8 1), (.int .i64 8), (.int .i64 1)].toArray 105 (0, 0)), blk b4 (.cells [(.int .i64 gw), (.int .i64 gi), (.int .i64 gb)].toArray 23 (0, 0))] := hs32
 refine zD (hK27 _ _ ?_)
 refine W.seq fun K34 hK34 => ?_
 refine W.sr fun K35 hK35 => ?_
 refine zR 1 ?_
 refine zL ⟨b30, 0, none⟩ (.int .u8 2) (hs33.cellAt 0 rfl rfl) ?_
 refine zE 2 (hK35 _ _ ?_)
 refine W.cond_true true (by kernel_rfl) rfl ?_
 refine W.sr fun K36 hK36 => ?_
 refine zR 2 ?_
 refine zL ⟨b30, 1, none⟩ (.int .i64 64) (hs33.cellAt 0 rfl rfl) ?_
 refine zR 1 ?_
 refine zL ⟨b30, 2, none⟩ (.int .i64 4) (hs33.cellAt 0 rfl rfl) ?_
 refine zE 3 (hK36 _ _ ?_)
 refine W.exit (exit_seq (exit_here ?_))
 refine hK26 _ _ ?_
 refine W.region ?_
 refine zE 2 ?_
 refine loopAt_next ?_
 refine loopAt_round ?_
 refine W.sr fun K37 hK37 => ?_
 refine zE 1 (hK37 _ _ ?_)
 refine W.seq fun K38 hK38 => ?_
 refine W.cond_true true (by kernel_rfl) rfl ?_
 refine W.skip ?_
 refine hK38 _ _ ?_
 refine W.seq fun K39 hK39 => ?_
 refine W.block ?_
 refine W.sr fun K40 hK40 => ?_
 refine zR 1 ?_
 refine zN [(.int .u8 0), (.int .i64 0), (.int .i64 0)] 105 hs33 fun b43 w41 hs42 => ?_
 refine ops_store (off := 0) (cs := [(.int .u8 0), (.int .i64 0), (.int .i64 0)]) (vs := [(.int .u8 5), (.int .i64 208), (.int .i64 gw)]) hs42 (by kernel_rfl) (by simp) rfl (fun w44 hs45 => ?_)
 have hs46 : St B w [] w44 [blk b43 (.cells [(.int .u8 5), (.int .i64 208), (.int .i64 gw)].toArray 105 (0, 0)), blk b30 (.cells [(.int .u8 2), (.int .i64 64), (.int .i64 4)].toArray 105 (0, 0)), blk b17 (.cells [(.int .u8 1), (.int .i64 8), (.int .i64 1)].toArray 105 (0, 0)), blk b4 (.cells [(.int .i64 gw), (.int .i64 gi), (.int .i64 gb)].toArray 23 (0, 0))] := hs45
 refine zD (hK40 _ _ ?_)
 refine W.seq fun K47 hK47 => ?_
 refine W.sr fun K48 hK48 => ?_
 refine zR 1 ?_
 refine zL ⟨b43, 0, none⟩ (.int .u8 5) (hs46.cellAt 0 rfl rfl) ?_
 refine zE 2 (hK48 _ _ ?_)
 refine W.cond_true true (by kernel_rfl) rfl ?_
 refine W.sr fun K49 hK49 => ?_
 refine zR 2 ?_
 refine zL ⟨b43, 1, none⟩ (.int .i64 208) (hs46.cellAt 0 rfl rfl) ?_
 refine zR 1 ?_
 refine zL ⟨b43, 2, none⟩ (.int .i64 gw) (hs46.cellAt 0 rfl rfl) ?_
 refine ops_val (v := .int .i64 (IntKind.i64.wrap (208 * gw))) (v' := .int .i64 (IntKind.i64.wrap (208 * gw))) (by kernel_rfl) rfl ?_
 refine ops_val (v := .int .i64 (IntKind.i64.wrap (264 + (IntKind.i64.wrap (208 * gw))))) (v' := .int .i64 (IntKind.i64.wrap (264 + (IntKind.i64.wrap (208 * gw))))) (by kernel_rfl) rfl ?_
 refine zE 1 (hK49 _ _ ?_)
 refine W.exit (exit_seq (exit_here ?_))
 refine hK39 _ _ ?_
 refine W.region ?_
 refine zE 2 ?_
 refine loopAt_next ?_
 refine loopAt_round ?_
 refine W.sr fun K50 hK50 => ?_
 refine zE 1 (hK50 _ _ ?_)
 refine W.seq fun K51 hK51 => ?_
 refine W.cond_true true (by kernel_rfl) rfl ?_
 refine W.skip ?_
 refine hK51 _ _ ?_
 refine W.seq fun K52 hK52 => ?_
 refine W.block ?_
 refine W.sr fun K53 hK53 => ?_
 refine zR 1 ?_
 refine zN [(.int .u8 0), (.int .i64 0), (.int .i64 0)] 105 hs46 fun b56 w54 hs55 => ?_
 refine ops_store (off := 0) (cs := [(.int .u8 0), (.int .i64 0), (.int .i64 0)]) (vs := [(.int .u8 6), (.int .i64 8), (.int .i64 1)]) hs55 (by kernel_rfl) (by simp) rfl (fun w57 hs58 => ?_)
 have hs59 : St B w [] w57 [blk b56 (.cells [(.int .u8 6), (.int .i64 8), (.int .i64 1)].toArray 105 (0, 0)), blk b43 (.cells [(.int .u8 5), (.int .i64 208), (.int .i64 gw)].toArray 105 (0, 0)), blk b30 (.cells [(.int .u8 2), (.int .i64 64), (.int .i64 4)].toArray 105 (0, 0)), blk b17 (.cells [(.int .u8 1), (.int .i64 8), (.int .i64 1)].toArray 105 (0, 0)), blk b4 (.cells [(.int .i64 gw), (.int .i64 gi), (.int .i64 gb)].toArray 23 (0, 0))] := hs58
 refine zD (hK53 _ _ ?_)
 refine W.seq fun K60 hK60 => ?_
 refine W.sr fun K61 hK61 => ?_
 refine zR 1 ?_
 refine zL ⟨b56, 0, none⟩ (.int .u8 6) (hs59.cellAt 0 rfl rfl) ?_
 refine zE 2 (hK61 _ _ ?_)
 refine W.cond_false false (by kernel_rfl) rfl ?_
 refine W.skip ?_
 refine hK60 _ _ ?_
 refine W.seq fun K62 hK62 => ?_
 refine W.sr fun K63 hK63 => ?_
 refine ops_R (runs_loadAgg (ad := ⟨b4, 0, none⟩) (cs := [(.int .i64 gw), (.int .i64 gi), (.int .i64 gb)]) (by kernel_rfl) (cells_sub (hs59.heapAt 4 rfl) rfl)) ?_
 refine zC00 hs59 (may_spec (gw := gw) (gi := gi) (gb := gb) B _) fun w64 hs66 => ?_
 refine zR 1 ?_
 rcases Bool.eq_false_or_eq_true (decide (May gw gi gb)) with h67 | h67
 ·
  have h67p := of_decide_eq_true h67
  refine zS 28 h67 ?_
  refine zS 27 h67 ?_
  refine zR 2 ?_
  refine zL ⟨b56, 2, none⟩ (.int .i64 1) (hs66.cellAt 0 rfl rfl) ?_
  refine zR 1 ?_
  refine zC00 hs66 (within_spec (n_ := n_) (f_ := 0) (t_ := 0) B _) fun w68 hs70 => ?_
  refine zE 1 (hK63 _ _ ?_)
  refine W.cond (decide (0 ≤ n_ ∧ n_ ≤ 0)) (by kernel_rfl) (fun h71 => ?_) (fun h71 => ?_)
  ·
   have h71p := of_decide_eq_true h71
   refine W.sr fun K72 hK72 => ?_
   refine zR 2 ?_
   refine zL ⟨b56, 1, none⟩ (.int .i64 8) (hs70.cellAt 0 rfl rfl) ?_
   refine zR 1 ?_
   refine ops_val (v := .int .i64 (IntKind.i64.wrap (8 * n_))) (v' := .int .i64 (IntKind.i64.wrap (8 * n_))) (by kernel_rfl) rfl ?_
   refine ops_val (v := .int .i64 (IntKind.i64.wrap ((IntKind.i64.wrap (264 + (IntKind.i64.wrap (208 * gw)))) + (IntKind.i64.wrap (8 * n_))))) (v' := .int .i64 (IntKind.i64.wrap ((IntKind.i64.wrap (264 + (IntKind.i64.wrap (208 * gw)))) + (IntKind.i64.wrap (8 * n_))))) (by kernel_rfl) rfl ?_
   refine zE 1 (hK72 _ _ ?_)
   refine W.ret (ret_seq (ret_block (ret_seq (ret_seq (ret_block (ret_seq ?_))))))
   have hs73 := St.tk0 hs70
   refine ret_of (.int .i64 (IntKind.i64.wrap ((IntKind.i64.wrap (264 + (IntKind.i64.wrap (208 * gw)))) + (IntKind.i64.wrap (8 * n_))))) (by kernel_rfl) ⟨_, ⟨congrArg (Value.int .i64) (by first | contradiction | (simp only [placeOf, if_pos hm]; split <;> omega) | (simp only [placeOf, if_neg hm]; done) | (simp only [placeOf, if_pos hm]; omega)), rfl⟩, hs73⟩
  ·
   have h71p := of_decide_eq_false h71
   refine W.skip ?_
   refine hK62 _ _ ?_
   refine W.exit (exit_block (by decide) (exit_seq (exit_seq (exit_here ?_))))
   refine hK6 _ _ ?_
   refine W.sr fun K74 hK74 => ?_
   refine zE 1 (hK74 _ _ ?_)
   refine W.ret ?_
   have hs75 := St.tk0 hs70
   refine ret_of (.int .i64 (-1)) (by kernel_rfl) ⟨_, ⟨congrArg (Value.int .i64) (by first | contradiction | (simp only [placeOf, if_pos hm]; split <;> omega) | (simp only [placeOf, if_neg hm]; done) | (simp only [placeOf, if_pos hm]; omega)), rfl⟩, hs75⟩
 ·
  have h67p := of_decide_eq_false h67
  refine zS 28 h67 ?_
  refine zS 27 h67 ?_
  refine zE 6 (hK63 _ _ ?_)
  refine W.cond_false false (by kernel_rfl) rfl ?_
  refine W.skip ?_
  refine hK62 _ _ ?_
  refine W.exit (exit_block (by decide) (exit_seq (exit_seq (exit_here ?_))))
  refine hK6 _ _ ?_
  refine W.sr fun K76 hK76 => ?_
  refine zE 1 (hK76 _ _ ?_)
  refine W.ret ?_
  have hs77 := St.tk0 hs66
  refine ret_of (.int .i64 (-1)) (by kernel_rfl) ⟨_, ⟨congrArg (Value.int .i64) (by first | contradiction | (simp only [placeOf, if_pos hm]; split <;> omega) | (simp only [placeOf, if_neg hm]; done) | (simp only [placeOf, if_pos hm]; omega)), rfl⟩, hs77⟩

theorem place6_spec {gw gi gb n_ : Int} (B : Nat) (w : World) : Spec Tryd.prog 53 #[(.agg #[(.int .i64 gw), (.int .i64 gi), (.int .i64 gb)]), (.int .u8 6), (.int .i64 n_)] B w [] (fun v H' => v = .int .i64 (placeOf 6 gw gi gb n_) ∧ H' = []) := by
 by_cases hm : May gw gi gb
 · exact place6_may B w hm
 · exact place6_not B w hm

theorem place7_may {gw gi gb n_ : Int} (B : Nat) (w : World) (hm : May gw gi gb) : Spec Tryd.prog 53 #[(.agg #[(.int .i64 gw), (.int .i64 gi), (.int .i64 gb)]), (.int .u8 7), (.int .i64 n_)] B w [] (fun v H' => v = .int .i64 (placeOf 7 gw gi gb n_) ∧ H' = []) := by
 refine spec_Q Tryd.func53 rfl fun hs => ?_
 have hm_ : (1 ≤ gw ∧ gw ≤ 4) ∧ (2 ≤ gi ∧ gi ≤ 64) ∧ (2 ≤ gb ∧ gb ≤ 512) := hm
 refine W.sr fun K1 hK1 => ?_
 refine zN [(.int .i64 gw), (.int .i64 gi), (.int .i64 gb)] 23 hs fun b4 w2 hs3 => ?_
 refine zE 1 (hK1 _ _ ?_)
 refine W.sr fun K5 hK5 => ?_
 refine zE 1 (hK5 _ _ ?_)
 refine W.seq fun K6 hK6 => ?_
 refine W.sr fun K7 hK7 => ?_
 refine ops_R (runs_loadAgg (ad := ⟨b4, 0, none⟩) (cs := [(.int .i64 gw), (.int .i64 gi), (.int .i64 gb)]) (by kernel_rfl) (cells_sub (hs3.heapAt 0 rfl) rfl)) ?_
 refine zC00 hs3 (rows_spec (gw := gw) (gi := gi) (gb := gb) B _) fun w8 hs10 => ?_
 refine zE 1 (hK7 _ _ ?_)
 refine W.block ?_
 refine W.loop_start ?_
 refine loopAt_round ?_
 refine W.sr fun K11 hK11 => ?_
 refine zE 1 (hK11 _ _ ?_)
 refine W.seq fun K12 hK12 => ?_
 refine W.cond_true true (by kernel_rfl) rfl ?_
 refine W.skip ?_
 refine hK12 _ _ ?_
 refine W.seq fun K13 hK13 => ?_
 refine W.block ?_
 refine W.sr fun K14 hK14 => ?_
 refine zR 1 ?_
 refine zN [(.int .u8 0), (.int .i64 0), (.int .i64 0)] 105 hs10 fun b17 w15 hs16 => ?_
 refine ops_store (off := 0) (cs := [(.int .u8 0), (.int .i64 0), (.int .i64 0)]) (vs := [(.int .u8 1), (.int .i64 8), (.int .i64 1)]) hs16 (by kernel_rfl) (by simp) rfl (fun w18 hs19 => ?_)
 have hs20 : St B w [] w18 [blk b17 (.cells [(.int .u8 1), (.int .i64 8), (.int .i64 1)].toArray 105 (0, 0)), blk b4 (.cells [(.int .i64 gw), (.int .i64 gi), (.int .i64 gb)].toArray 23 (0, 0))] := hs19
 refine zD (hK14 _ _ ?_)
 refine W.seq fun K21 hK21 => ?_
 refine W.sr fun K22 hK22 => ?_
 refine zR 1 ?_
 refine zL ⟨b17, 0, none⟩ (.int .u8 1) (hs20.cellAt 0 rfl rfl) ?_
 refine zE 2 (hK22 _ _ ?_)
 refine W.cond_true true (by kernel_rfl) rfl ?_
 refine W.sr fun K23 hK23 => ?_
 refine zR 2 ?_
 refine zL ⟨b17, 1, none⟩ (.int .i64 8) (hs20.cellAt 0 rfl rfl) ?_
 refine zR 1 ?_
 refine zL ⟨b17, 2, none⟩ (.int .i64 1) (hs20.cellAt 0 rfl rfl) ?_
 refine zE 3 (hK23 _ _ ?_)
 refine W.exit (exit_seq (exit_here ?_))
 refine hK13 _ _ ?_
 refine W.region ?_
 refine zE 2 ?_
 refine loopAt_next ?_
 refine loopAt_round ?_
 refine W.sr fun K24 hK24 => ?_
 refine zE 1 (hK24 _ _ ?_)
 refine W.seq fun K25 hK25 => ?_
 refine W.cond_true true (by kernel_rfl) rfl ?_
 refine W.skip ?_
 refine hK25 _ _ ?_
 refine W.seq fun K26 hK26 => ?_
 refine W.block ?_
 refine W.sr fun K27 hK27 => ?_
 refine zR 1 ?_
 refine zN [(.int .u8 0), (.int .i64 0), (.int .i64 0)] 105 hs20 fun b30 w28 hs29 => ?_
 refine ops_store (off := 0) (cs := [(.int .u8 0), (.int .i64 0), (.int .i64 0)]) (vs := [(.int .u8 2), (.int .i64 64), (.int .i64 4)]) hs29 (by kernel_rfl) (by simp) rfl (fun w31 hs32 => ?_)
 have hs33 : St B w [] w31 [blk b30 (.cells [(.int .u8 2), (.int .i64 64), (.int .i64 4)].toArray 105 (0, 0)), blk b17 (.cells [(.int .u8 1), (.int .i64 8), (.int .i64 1)].toArray 105 (0, 0)), blk b4 (.cells [(.int .i64 gw), (.int .i64 gi), (.int .i64 gb)].toArray 23 (0, 0))] := hs32
 refine zD (hK27 _ _ ?_)
 refine W.seq fun K34 hK34 => ?_
 refine W.sr fun K35 hK35 => ?_
 refine zR 1 ?_
 refine zL ⟨b30, 0, none⟩ (.int .u8 2) (hs33.cellAt 0 rfl rfl) ?_
 refine zE 2 (hK35 _ _ ?_)
 refine W.cond_true true (by kernel_rfl) rfl ?_
 refine W.sr fun K36 hK36 => ?_
 refine zR 2 ?_
 refine zL ⟨b30, 1, none⟩ (.int .i64 64) (hs33.cellAt 0 rfl rfl) ?_
 refine zR 1 ?_
 refine zL ⟨b30, 2, none⟩ (.int .i64 4) (hs33.cellAt 0 rfl rfl) ?_
 refine zE 3 (hK36 _ _ ?_)
 refine W.exit (exit_seq (exit_here ?_))
 refine hK26 _ _ ?_
 refine W.region ?_
 refine zE 2 ?_
 refine loopAt_next ?_
 refine loopAt_round ?_
 refine W.sr fun K37 hK37 => ?_
 refine zE 1 (hK37 _ _ ?_)
 refine W.seq fun K38 hK38 => ?_
 refine W.cond_true true (by kernel_rfl) rfl ?_
 refine W.skip ?_
 refine hK38 _ _ ?_
 refine W.seq fun K39 hK39 => ?_
 refine W.block ?_
 refine W.sr fun K40 hK40 => ?_
 refine zR 1 ?_
 refine zN [(.int .u8 0), (.int .i64 0), (.int .i64 0)] 105 hs33 fun b43 w41 hs42 => ?_
 refine ops_store (off := 0) (cs := [(.int .u8 0), (.int .i64 0), (.int .i64 0)]) (vs := [(.int .u8 5), (.int .i64 208), (.int .i64 gw)]) hs42 (by kernel_rfl) (by simp) rfl (fun w44 hs45 => ?_)
 have hs46 : St B w [] w44 [blk b43 (.cells [(.int .u8 5), (.int .i64 208), (.int .i64 gw)].toArray 105 (0, 0)), blk b30 (.cells [(.int .u8 2), (.int .i64 64), (.int .i64 4)].toArray 105 (0, 0)), blk b17 (.cells [(.int .u8 1), (.int .i64 8), (.int .i64 1)].toArray 105 (0, 0)), blk b4 (.cells [(.int .i64 gw), (.int .i64 gi), (.int .i64 gb)].toArray 23 (0, 0))] := hs45
 refine zD (hK40 _ _ ?_)
 refine W.seq fun K47 hK47 => ?_
 refine W.sr fun K48 hK48 => ?_
 refine zR 1 ?_
 refine zL ⟨b43, 0, none⟩ (.int .u8 5) (hs46.cellAt 0 rfl rfl) ?_
 refine zE 2 (hK48 _ _ ?_)
 refine W.cond_true true (by kernel_rfl) rfl ?_
 refine W.sr fun K49 hK49 => ?_
 refine zR 2 ?_
 refine zL ⟨b43, 1, none⟩ (.int .i64 208) (hs46.cellAt 0 rfl rfl) ?_
 refine zR 1 ?_
 refine zL ⟨b43, 2, none⟩ (.int .i64 gw) (hs46.cellAt 0 rfl rfl) ?_
 refine zI (208 * gw) (wrap_i64 (by omega) (by omega)) ?_
 refine zI (264 + (208 * gw)) (wrap_i64 (by omega) (by omega)) ?_
 refine zE 1 (hK49 _ _ ?_)
 refine W.exit (exit_seq (exit_here ?_))
 refine hK39 _ _ ?_
 refine W.region ?_
 refine zE 2 ?_
 refine loopAt_next ?_
 refine loopAt_round ?_
 refine W.sr fun K50 hK50 => ?_
 refine zE 1 (hK50 _ _ ?_)
 refine W.seq fun K51 hK51 => ?_
 refine W.cond_true true (by kernel_rfl) rfl ?_
 refine W.skip ?_
 refine hK51 _ _ ?_
 refine W.seq fun K52 hK52 => ?_
 refine W.block ?_
 refine W.sr fun K53 hK53 => ?_
 refine zR 1 ?_
 refine zN [(.int .u8 0), (.int .i64 0), (.int .i64 0)] 105 hs46 fun b56 w54 hs55 => ?_
 refine ops_store (off := 0) (cs := [(.int .u8 0), (.int .i64 0), (.int .i64 0)]) (vs := [(.int .u8 6), (.int .i64 8), (.int .i64 1)]) hs55 (by kernel_rfl) (by simp) rfl (fun w57 hs58 => ?_)
 have hs59 : St B w [] w57 [blk b56 (.cells [(.int .u8 6), (.int .i64 8), (.int .i64 1)].toArray 105 (0, 0)), blk b43 (.cells [(.int .u8 5), (.int .i64 208), (.int .i64 gw)].toArray 105 (0, 0)), blk b30 (.cells [(.int .u8 2), (.int .i64 64), (.int .i64 4)].toArray 105 (0, 0)), blk b17 (.cells [(.int .u8 1), (.int .i64 8), (.int .i64 1)].toArray 105 (0, 0)), blk b4 (.cells [(.int .i64 gw), (.int .i64 gi), (.int .i64 gb)].toArray 23 (0, 0))] := hs58
 refine zD (hK53 _ _ ?_)
 refine W.seq fun K60 hK60 => ?_
 refine W.sr fun K61 hK61 => ?_
 refine zR 1 ?_
 refine zL ⟨b56, 0, none⟩ (.int .u8 6) (hs59.cellAt 0 rfl rfl) ?_
 refine zE 2 (hK61 _ _ ?_)
 refine W.cond_true true (by kernel_rfl) rfl ?_
 refine W.sr fun K62 hK62 => ?_
 refine zR 2 ?_
 refine zL ⟨b56, 1, none⟩ (.int .i64 8) (hs59.cellAt 0 rfl rfl) ?_
 refine zR 1 ?_
 refine zL ⟨b56, 2, none⟩ (.int .i64 1) (hs59.cellAt 0 rfl rfl) ?_
 refine zR 1 ?_
 refine zI ((264 + (208 * gw)) + 8) (wrap_i64 (by omega) (by omega)) ?_
 refine zE 1 (hK62 _ _ ?_)
 refine W.exit (exit_seq (exit_here ?_))
 refine hK52 _ _ ?_
 refine W.region ?_
 refine zE 2 ?_
 refine loopAt_next ?_
 refine loopAt_round ?_
 refine W.sr fun K63 hK63 => ?_
 refine zE 1 (hK63 _ _ ?_)
 refine W.seq fun K64 hK64 => ?_
 refine W.cond_true true (by kernel_rfl) rfl ?_
 refine W.skip ?_
 refine hK64 _ _ ?_
 refine W.seq fun K65 hK65 => ?_
 refine W.block ?_
 refine W.sr fun K66 hK66 => ?_
 refine zR 1 ?_
 refine zN [(.int .u8 0), (.int .i64 0), (.int .i64 0)] 105 hs59 fun b69 w67 hs68 => ?_
 refine ops_store (off := 0) (cs := [(.int .u8 0), (.int .i64 0), (.int .i64 0)]) (vs := [(.int .u8 7), (.int .i64 8), (.int .i64 1)]) hs68 (by kernel_rfl) (by simp) rfl (fun w70 hs71 => ?_)
 have hs72 : St B w [] w70 [blk b69 (.cells [(.int .u8 7), (.int .i64 8), (.int .i64 1)].toArray 105 (0, 0)), blk b56 (.cells [(.int .u8 6), (.int .i64 8), (.int .i64 1)].toArray 105 (0, 0)), blk b43 (.cells [(.int .u8 5), (.int .i64 208), (.int .i64 gw)].toArray 105 (0, 0)), blk b30 (.cells [(.int .u8 2), (.int .i64 64), (.int .i64 4)].toArray 105 (0, 0)), blk b17 (.cells [(.int .u8 1), (.int .i64 8), (.int .i64 1)].toArray 105 (0, 0)), blk b4 (.cells [(.int .i64 gw), (.int .i64 gi), (.int .i64 gb)].toArray 23 (0, 0))] := hs71
 refine zD (hK66 _ _ ?_)
 refine W.seq fun K73 hK73 => ?_
 refine W.sr fun K74 hK74 => ?_
 refine zR 1 ?_
 refine zL ⟨b69, 0, none⟩ (.int .u8 7) (hs72.cellAt 0 rfl rfl) ?_
 refine zE 2 (hK74 _ _ ?_)
 refine W.cond_false false (by kernel_rfl) rfl ?_
 refine W.skip ?_
 refine hK73 _ _ ?_
 refine W.seq fun K75 hK75 => ?_
 refine W.sr fun K76 hK76 => ?_
 refine ops_R (runs_loadAgg (ad := ⟨b4, 0, none⟩) (cs := [(.int .i64 gw), (.int .i64 gi), (.int .i64 gb)]) (by kernel_rfl) (cells_sub (hs72.heapAt 5 rfl) rfl)) ?_
 refine zC00 hs72 (may_spec (gw := gw) (gi := gi) (gb := gb) B _) fun w77 hs79 => ?_
 refine zR 1 ?_
 rcases Bool.eq_false_or_eq_true (decide (May gw gi gb)) with h80 | h80
 ·
  have h80p := of_decide_eq_true h80
  refine zS 28 h80 ?_
  refine zS 27 h80 ?_
  refine zR 2 ?_
  refine zL ⟨b69, 2, none⟩ (.int .i64 1) (hs79.cellAt 0 rfl rfl) ?_
  refine zR 1 ?_
  refine zC00 hs79 (within_spec (n_ := n_) (f_ := 0) (t_ := 0) B _) fun w81 hs83 => ?_
  refine zE 1 (hK76 _ _ ?_)
  refine W.cond (decide (0 ≤ n_ ∧ n_ ≤ 0)) (by kernel_rfl) (fun h84 => ?_) (fun h84 => ?_)
  ·
   have h84p := of_decide_eq_true h84
   refine W.sr fun K85 hK85 => ?_
   refine zR 2 ?_
   refine zL ⟨b69, 1, none⟩ (.int .i64 8) (hs83.cellAt 0 rfl rfl) ?_
   refine zR 1 ?_
   refine zI (8 * n_) (wrap_i64 (by omega) (by omega)) ?_
   refine zI (((264 + (208 * gw)) + 8) + (8 * n_)) (wrap_i64 (by omega) (by omega)) ?_
   refine zE 1 (hK85 _ _ ?_)
   refine W.ret (ret_seq (ret_block (ret_seq (ret_seq (ret_block (ret_seq ?_))))))
   have hs86 := St.tk0 hs83
   refine ret_of (.int .i64 (((264 + (208 * gw)) + 8) + (8 * n_))) (by kernel_rfl) ⟨_, ⟨congrArg (Value.int .i64) (by first | contradiction | (simp only [placeOf, if_pos hm]; split <;> omega) | (simp only [placeOf, if_neg hm]; done) | (simp only [placeOf, if_pos hm]; omega)), rfl⟩, hs86⟩
  ·
   have h84p := of_decide_eq_false h84
   refine W.skip ?_
   refine hK75 _ _ ?_
   refine W.exit (exit_block (by decide) (exit_seq (exit_seq (exit_here ?_))))
   refine hK6 _ _ ?_
   refine W.sr fun K87 hK87 => ?_
   refine zE 1 (hK87 _ _ ?_)
   refine W.ret ?_
   have hs88 := St.tk0 hs83
   refine ret_of (.int .i64 (-1)) (by kernel_rfl) ⟨_, ⟨congrArg (Value.int .i64) (by first | contradiction | (simp only [placeOf, if_pos hm]; split <;> omega) | (simp only [placeOf, if_neg hm]; done) | (simp only [placeOf, if_pos hm]; omega)), rfl⟩, hs88⟩
 ·
  have h80p := of_decide_eq_false h80
  refine zS 28 h80 ?_
  refine zS 27 h80 ?_
  refine zE 6 (hK76 _ _ ?_)
  refine W.cond_false false (by kernel_rfl) rfl ?_
  refine W.skip ?_
  refine hK75 _ _ ?_
  refine W.exit (exit_block (by decide) (exit_seq (exit_seq (exit_here ?_))))
  refine hK6 _ _ ?_
  refine W.sr fun K89 hK89 => ?_
  refine zE 1 (hK89 _ _ ?_)
  refine W.ret ?_
  have hs90 := St.tk0 hs79
  refine ret_of (.int .i64 (-1)) (by kernel_rfl) ⟨_, ⟨congrArg (Value.int .i64) (by first | contradiction | (simp only [placeOf, if_pos hm]; split <;> omega) | (simp only [placeOf, if_neg hm]; done) | (simp only [placeOf, if_pos hm]; omega)), rfl⟩, hs90⟩

theorem place7_not {gw gi gb n_ : Int} (B : Nat) (w : World) (hm : ¬ May gw gi gb) : Spec Tryd.prog 53 #[(.agg #[(.int .i64 gw), (.int .i64 gi), (.int .i64 gb)]), (.int .u8 7), (.int .i64 n_)] B w [] (fun v H' => v = .int .i64 (placeOf 7 gw gi gb n_) ∧ H' = []) := by
 refine spec_Q Tryd.func53 rfl fun hs => ?_
 refine W.sr fun K1 hK1 => ?_
 refine zN [(.int .i64 gw), (.int .i64 gi), (.int .i64 gb)] 23 hs fun b4 w2 hs3 => ?_
 refine zE 1 (hK1 _ _ ?_)
 refine W.sr fun K5 hK5 => ?_
 refine zE 1 (hK5 _ _ ?_)
 refine W.seq fun K6 hK6 => ?_
 refine W.sr fun K7 hK7 => ?_
 refine ops_R (runs_loadAgg (ad := ⟨b4, 0, none⟩) (cs := [(.int .i64 gw), (.int .i64 gi), (.int .i64 gb)]) (by kernel_rfl) (cells_sub (hs3.heapAt 0 rfl) rfl)) ?_
 refine zC00 hs3 (rows_spec (gw := gw) (gi := gi) (gb := gb) B _) fun w8 hs10 => ?_
 refine zE 1 (hK7 _ _ ?_)
 refine W.block ?_
 refine W.loop_start ?_
 refine loopAt_round ?_
 refine W.sr fun K11 hK11 => ?_
 refine zE 1 (hK11 _ _ ?_)
 refine W.seq fun K12 hK12 => ?_
 refine W.cond_true true (by kernel_rfl) rfl ?_
 refine W.skip ?_
 refine hK12 _ _ ?_
 refine W.seq fun K13 hK13 => ?_
 refine W.block ?_
 refine W.sr fun K14 hK14 => ?_
 refine zR 1 ?_
 refine zN [(.int .u8 0), (.int .i64 0), (.int .i64 0)] 105 hs10 fun b17 w15 hs16 => ?_
 refine ops_store (off := 0) (cs := [(.int .u8 0), (.int .i64 0), (.int .i64 0)]) (vs := [(.int .u8 1), (.int .i64 8), (.int .i64 1)]) hs16 (by kernel_rfl) (by simp) rfl (fun w18 hs19 => ?_)
 have hs20 : St B w [] w18 [blk b17 (.cells [(.int .u8 1), (.int .i64 8), (.int .i64 1)].toArray 105 (0, 0)), blk b4 (.cells [(.int .i64 gw), (.int .i64 gi), (.int .i64 gb)].toArray 23 (0, 0))] := hs19
 refine zD (hK14 _ _ ?_)
 refine W.seq fun K21 hK21 => ?_
 refine W.sr fun K22 hK22 => ?_
 refine zR 1 ?_
 refine zL ⟨b17, 0, none⟩ (.int .u8 1) (hs20.cellAt 0 rfl rfl) ?_
 refine zE 2 (hK22 _ _ ?_)
 refine W.cond_true true (by kernel_rfl) rfl ?_
 refine W.sr fun K23 hK23 => ?_
 refine zR 2 ?_
 refine zL ⟨b17, 1, none⟩ (.int .i64 8) (hs20.cellAt 0 rfl rfl) ?_
 refine zR 1 ?_
 refine zL ⟨b17, 2, none⟩ (.int .i64 1) (hs20.cellAt 0 rfl rfl) ?_
 refine zE 3 (hK23 _ _ ?_)
 refine W.exit (exit_seq (exit_here ?_))
 refine hK13 _ _ ?_
 refine W.region ?_
 refine zE 2 ?_
 refine loopAt_next ?_
 refine loopAt_round ?_
 refine W.sr fun K24 hK24 => ?_
 refine zE 1 (hK24 _ _ ?_)
 refine W.seq fun K25 hK25 => ?_
 refine W.cond_true true (by kernel_rfl) rfl ?_
 refine W.skip ?_
 refine hK25 _ _ ?_
 refine W.seq fun K26 hK26 => ?_
 refine W.block ?_
 refine W.sr fun K27 hK27 => ?_
 refine zR 1 ?_
 refine zN [(.int .u8 0), (.int .i64 0), (.int .i64 0)] 105 hs20 fun b30 w28 hs29 => ?_
 refine ops_store (off := 0) (cs := [(.int .u8 0), (.int .i64 0), (.int .i64 0)]) (vs := [(.int .u8 2), (.int .i64 64), (.int .i64 4)]) hs29 (by kernel_rfl) (by simp) rfl (fun w31 hs32 => ?_)
 have hs33 : St B w [] w31 [blk b30 (.cells [(.int .u8 2), (.int .i64 64), (.int .i64 4)].toArray 105 (0, 0)), blk b17 (.cells [(.int .u8 1), (.int .i64 8), (.int .i64 1)].toArray 105 (0, 0)), blk b4 (.cells [(.int .i64 gw), (.int .i64 gi), (.int .i64 gb)].toArray 23 (0, 0))] := hs32
 refine zD (hK27 _ _ ?_)
 refine W.seq fun K34 hK34 => ?_
 refine W.sr fun K35 hK35 => ?_
 refine zR 1 ?_
 refine zL ⟨b30, 0, none⟩ (.int .u8 2) (hs33.cellAt 0 rfl rfl) ?_
 refine zE 2 (hK35 _ _ ?_)
 refine W.cond_true true (by kernel_rfl) rfl ?_
 refine W.sr fun K36 hK36 => ?_
 refine zR 2 ?_
 refine zL ⟨b30, 1, none⟩ (.int .i64 64) (hs33.cellAt 0 rfl rfl) ?_
 refine zR 1 ?_
 refine zL ⟨b30, 2, none⟩ (.int .i64 4) (hs33.cellAt 0 rfl rfl) ?_
 refine zE 3 (hK36 _ _ ?_)
 refine W.exit (exit_seq (exit_here ?_))
 refine hK26 _ _ ?_
 refine W.region ?_
 refine zE 2 ?_
 refine loopAt_next ?_
 refine loopAt_round ?_
 refine W.sr fun K37 hK37 => ?_
 refine zE 1 (hK37 _ _ ?_)
 refine W.seq fun K38 hK38 => ?_
 refine W.cond_true true (by kernel_rfl) rfl ?_
 refine W.skip ?_
 refine hK38 _ _ ?_
 refine W.seq fun K39 hK39 => ?_
 refine W.block ?_
 refine W.sr fun K40 hK40 => ?_
 refine zR 1 ?_
 refine zN [(.int .u8 0), (.int .i64 0), (.int .i64 0)] 105 hs33 fun b43 w41 hs42 => ?_
 refine ops_store (off := 0) (cs := [(.int .u8 0), (.int .i64 0), (.int .i64 0)]) (vs := [(.int .u8 5), (.int .i64 208), (.int .i64 gw)]) hs42 (by kernel_rfl) (by simp) rfl (fun w44 hs45 => ?_)
 have hs46 : St B w [] w44 [blk b43 (.cells [(.int .u8 5), (.int .i64 208), (.int .i64 gw)].toArray 105 (0, 0)), blk b30 (.cells [(.int .u8 2), (.int .i64 64), (.int .i64 4)].toArray 105 (0, 0)), blk b17 (.cells [(.int .u8 1), (.int .i64 8), (.int .i64 1)].toArray 105 (0, 0)), blk b4 (.cells [(.int .i64 gw), (.int .i64 gi), (.int .i64 gb)].toArray 23 (0, 0))] := hs45
 refine zD (hK40 _ _ ?_)
 refine W.seq fun K47 hK47 => ?_
 refine W.sr fun K48 hK48 => ?_
 refine zR 1 ?_
 refine zL ⟨b43, 0, none⟩ (.int .u8 5) (hs46.cellAt 0 rfl rfl) ?_
 refine zE 2 (hK48 _ _ ?_)
 refine W.cond_true true (by kernel_rfl) rfl ?_
 refine W.sr fun K49 hK49 => ?_
 refine zR 2 ?_
 refine zL ⟨b43, 1, none⟩ (.int .i64 208) (hs46.cellAt 0 rfl rfl) ?_
 refine zR 1 ?_
 refine zL ⟨b43, 2, none⟩ (.int .i64 gw) (hs46.cellAt 0 rfl rfl) ?_
 refine ops_val (v := .int .i64 (IntKind.i64.wrap (208 * gw))) (v' := .int .i64 (IntKind.i64.wrap (208 * gw))) (by kernel_rfl) rfl ?_
 refine ops_val (v := .int .i64 (IntKind.i64.wrap (264 + (IntKind.i64.wrap (208 * gw))))) (v' := .int .i64 (IntKind.i64.wrap (264 + (IntKind.i64.wrap (208 * gw))))) (by kernel_rfl) rfl ?_
 refine zE 1 (hK49 _ _ ?_)
 refine W.exit (exit_seq (exit_here ?_))
 refine hK39 _ _ ?_
 refine W.region ?_
 refine zE 2 ?_
 refine loopAt_next ?_
 refine loopAt_round ?_
 refine W.sr fun K50 hK50 => ?_
 refine zE 1 (hK50 _ _ ?_)
 refine W.seq fun K51 hK51 => ?_
 refine W.cond_true true (by kernel_rfl) rfl ?_
 refine W.skip ?_
 refine hK51 _ _ ?_
 refine W.seq fun K52 hK52 => ?_
 refine W.block ?_
 refine W.sr fun K53 hK53 => ?_
 refine zR 1 ?_
 refine zN [(.int .u8 0), (.int .i64 0), (.int .i64 0)] 105 hs46 fun b56 w54 hs55 => ?_
 refine ops_store (off := 0) (cs := [(.int .u8 0), (.int .i64 0), (.int .i64 0)]) (vs := [(.int .u8 6), (.int .i64 8), (.int .i64 1)]) hs55 (by kernel_rfl) (by simp) rfl (fun w57 hs58 => ?_)
 have hs59 : St B w [] w57 [blk b56 (.cells [(.int .u8 6), (.int .i64 8), (.int .i64 1)].toArray 105 (0, 0)), blk b43 (.cells [(.int .u8 5), (.int .i64 208), (.int .i64 gw)].toArray 105 (0, 0)), blk b30 (.cells [(.int .u8 2), (.int .i64 64), (.int .i64 4)].toArray 105 (0, 0)), blk b17 (.cells [(.int .u8 1), (.int .i64 8), (.int .i64 1)].toArray 105 (0, 0)), blk b4 (.cells [(.int .i64 gw), (.int .i64 gi), (.int .i64 gb)].toArray 23 (0, 0))] := hs58
 refine zD (hK53 _ _ ?_)
 refine W.seq fun K60 hK60 => ?_
 refine W.sr fun K61 hK61 => ?_
 refine zR 1 ?_
 refine zL ⟨b56, 0, none⟩ (.int .u8 6) (hs59.cellAt 0 rfl rfl) ?_
 refine zE 2 (hK61 _ _ ?_)
 refine W.cond_true true (by kernel_rfl) rfl ?_
 refine W.sr fun K62 hK62 => ?_
 refine zR 2 ?_
 refine zL ⟨b56, 1, none⟩ (.int .i64 8) (hs59.cellAt 0 rfl rfl) ?_
 refine zR 1 ?_
 refine zL ⟨b56, 2, none⟩ (.int .i64 1) (hs59.cellAt 0 rfl rfl) ?_
 refine zR 1 ?_
 refine ops_val (v := .int .i64 (IntKind.i64.wrap ((IntKind.i64.wrap (264 + (IntKind.i64.wrap (208 * gw)))) + 8))) (v' := .int .i64 (IntKind.i64.wrap ((IntKind.i64.wrap (264 + (IntKind.i64.wrap (208 * gw)))) + 8))) (by kernel_rfl) rfl ?_
 refine zE 1 (hK62 _ _ ?_)
 refine W.exit (exit_seq (exit_here ?_))
 refine hK52 _ _ ?_
 refine W.region ?_
 refine zE 2 ?_
 refine loopAt_next ?_
 refine loopAt_round ?_
 refine W.sr fun K63 hK63 => ?_
 refine zE 1 (hK63 _ _ ?_)
 refine W.seq fun K64 hK64 => ?_
 refine W.cond_true true (by kernel_rfl) rfl ?_
 refine W.skip ?_
 refine hK64 _ _ ?_
 refine W.seq fun K65 hK65 => ?_
 refine W.block ?_
 refine W.sr fun K66 hK66 => ?_
 refine zR 1 ?_
 refine zN [(.int .u8 0), (.int .i64 0), (.int .i64 0)] 105 hs59 fun b69 w67 hs68 => ?_
 refine ops_store (off := 0) (cs := [(.int .u8 0), (.int .i64 0), (.int .i64 0)]) (vs := [(.int .u8 7), (.int .i64 8), (.int .i64 1)]) hs68 (by kernel_rfl) (by simp) rfl (fun w70 hs71 => ?_)
 have hs72 : St B w [] w70 [blk b69 (.cells [(.int .u8 7), (.int .i64 8), (.int .i64 1)].toArray 105 (0, 0)), blk b56 (.cells [(.int .u8 6), (.int .i64 8), (.int .i64 1)].toArray 105 (0, 0)), blk b43 (.cells [(.int .u8 5), (.int .i64 208), (.int .i64 gw)].toArray 105 (0, 0)), blk b30 (.cells [(.int .u8 2), (.int .i64 64), (.int .i64 4)].toArray 105 (0, 0)), blk b17 (.cells [(.int .u8 1), (.int .i64 8), (.int .i64 1)].toArray 105 (0, 0)), blk b4 (.cells [(.int .i64 gw), (.int .i64 gi), (.int .i64 gb)].toArray 23 (0, 0))] := hs71
 refine zD (hK66 _ _ ?_)
 refine W.seq fun K73 hK73 => ?_
 refine W.sr fun K74 hK74 => ?_
 refine zR 1 ?_
 refine zL ⟨b69, 0, none⟩ (.int .u8 7) (hs72.cellAt 0 rfl rfl) ?_
 refine zE 2 (hK74 _ _ ?_)
 refine W.cond_false false (by kernel_rfl) rfl ?_
 refine W.skip ?_
 refine hK73 _ _ ?_
 refine W.seq fun K75 hK75 => ?_
 refine W.sr fun K76 hK76 => ?_
 refine ops_R (runs_loadAgg (ad := ⟨b4, 0, none⟩) (cs := [(.int .i64 gw), (.int .i64 gi), (.int .i64 gb)]) (by kernel_rfl) (cells_sub (hs72.heapAt 5 rfl) rfl)) ?_
 refine zC00 hs72 (may_spec (gw := gw) (gi := gi) (gb := gb) B _) fun w77 hs79 => ?_
 refine zR 1 ?_
 rcases Bool.eq_false_or_eq_true (decide (May gw gi gb)) with h80 | h80
 ·
  have h80p := of_decide_eq_true h80
  refine zS 28 h80 ?_
  refine zS 27 h80 ?_
  refine zR 2 ?_
  refine zL ⟨b69, 2, none⟩ (.int .i64 1) (hs79.cellAt 0 rfl rfl) ?_
  refine zR 1 ?_
  refine zC00 hs79 (within_spec (n_ := n_) (f_ := 0) (t_ := 0) B _) fun w81 hs83 => ?_
  refine zE 1 (hK76 _ _ ?_)
  refine W.cond (decide (0 ≤ n_ ∧ n_ ≤ 0)) (by kernel_rfl) (fun h84 => ?_) (fun h84 => ?_)
  ·
   have h84p := of_decide_eq_true h84
   refine W.sr fun K85 hK85 => ?_
   refine zR 2 ?_
   refine zL ⟨b69, 1, none⟩ (.int .i64 8) (hs83.cellAt 0 rfl rfl) ?_
   refine zR 1 ?_
   refine ops_val (v := .int .i64 (IntKind.i64.wrap (8 * n_))) (v' := .int .i64 (IntKind.i64.wrap (8 * n_))) (by kernel_rfl) rfl ?_
   refine ops_val (v := .int .i64 (IntKind.i64.wrap ((IntKind.i64.wrap ((IntKind.i64.wrap (264 + (IntKind.i64.wrap (208 * gw)))) + 8)) + (IntKind.i64.wrap (8 * n_))))) (v' := .int .i64 (IntKind.i64.wrap ((IntKind.i64.wrap ((IntKind.i64.wrap (264 + (IntKind.i64.wrap (208 * gw)))) + 8)) + (IntKind.i64.wrap (8 * n_))))) (by kernel_rfl) rfl ?_
   refine zE 1 (hK85 _ _ ?_)
   refine W.ret (ret_seq (ret_block (ret_seq (ret_seq (ret_block (ret_seq ?_))))))
   have hs86 := St.tk0 hs83
   refine ret_of (.int .i64 (IntKind.i64.wrap ((IntKind.i64.wrap ((IntKind.i64.wrap (264 + (IntKind.i64.wrap (208 * gw)))) + 8)) + (IntKind.i64.wrap (8 * n_))))) (by kernel_rfl) ⟨_, ⟨congrArg (Value.int .i64) (by first | contradiction | (simp only [placeOf, if_pos hm]; split <;> omega) | (simp only [placeOf, if_neg hm]; done) | (simp only [placeOf, if_pos hm]; omega)), rfl⟩, hs86⟩
  ·
   have h84p := of_decide_eq_false h84
   refine W.skip ?_
   refine hK75 _ _ ?_
   refine W.exit (exit_block (by decide) (exit_seq (exit_seq (exit_here ?_))))
   refine hK6 _ _ ?_
   refine W.sr fun K87 hK87 => ?_
   refine zE 1 (hK87 _ _ ?_)
   refine W.ret ?_
   have hs88 := St.tk0 hs83
   refine ret_of (.int .i64 (-1)) (by kernel_rfl) ⟨_, ⟨congrArg (Value.int .i64) (by first | contradiction | (simp only [placeOf, if_pos hm]; split <;> omega) | (simp only [placeOf, if_neg hm]; done) | (simp only [placeOf, if_pos hm]; omega)), rfl⟩, hs88⟩
 ·
  have h80p := of_decide_eq_false h80
  refine zS 28 h80 ?_
  refine zS 27 h80 ?_
  refine zE 6 (hK76 _ _ ?_)
  refine W.cond_false false (by kernel_rfl) rfl ?_
  refine W.skip ?_
  refine hK75 _ _ ?_
  refine W.exit (exit_block (by decide) (exit_seq (exit_seq (exit_here ?_))))
  refine hK6 _ _ ?_
  refine W.sr fun K89 hK89 => ?_
  refine zE 1 (hK89 _ _ ?_)
  refine W.ret ?_
  have hs90 := St.tk0 hs79
  refine ret_of (.int .i64 (-1)) (by kernel_rfl) ⟨_, ⟨congrArg (Value.int .i64) (by first | contradiction | (simp only [placeOf, if_pos hm]; split <;> omega) | (simp only [placeOf, if_neg hm]; done) | (simp only [placeOf, if_pos hm]; omega)), rfl⟩, hs90⟩

theorem place7_spec {gw gi gb n_ : Int} (B : Nat) (w : World) : Spec Tryd.prog 53 #[(.agg #[(.int .i64 gw), (.int .i64 gi), (.int .i64 gb)]), (.int .u8 7), (.int .i64 n_)] B w [] (fun v H' => v = .int .i64 (placeOf 7 gw gi gb n_) ∧ H' = []) := by
 by_cases hm : May gw gi gb
 · exact place7_may B w hm
 · exact place7_not B w hm

theorem place8_may {gw gi gb n_ : Int} (B : Nat) (w : World) (hm : May gw gi gb) : Spec Tryd.prog 53 #[(.agg #[(.int .i64 gw), (.int .i64 gi), (.int .i64 gb)]), (.int .u8 8), (.int .i64 n_)] B w [] (fun v H' => v = .int .i64 (placeOf 8 gw gi gb n_) ∧ H' = []) := by
 refine spec_Q Tryd.func53 rfl fun hs => ?_
 have hm_ : (1 ≤ gw ∧ gw ≤ 4) ∧ (2 ≤ gi ∧ gi ≤ 64) ∧ (2 ≤ gb ∧ gb ≤ 512) := hm
 refine W.sr fun K1 hK1 => ?_
 refine zN [(.int .i64 gw), (.int .i64 gi), (.int .i64 gb)] 23 hs fun b4 w2 hs3 => ?_
 refine zE 1 (hK1 _ _ ?_)
 refine W.sr fun K5 hK5 => ?_
 refine zE 1 (hK5 _ _ ?_)
 refine W.seq fun K6 hK6 => ?_
 refine W.sr fun K7 hK7 => ?_
 refine ops_R (runs_loadAgg (ad := ⟨b4, 0, none⟩) (cs := [(.int .i64 gw), (.int .i64 gi), (.int .i64 gb)]) (by kernel_rfl) (cells_sub (hs3.heapAt 0 rfl) rfl)) ?_
 refine zC00 hs3 (rows_spec (gw := gw) (gi := gi) (gb := gb) B _) fun w8 hs10 => ?_
 refine zE 1 (hK7 _ _ ?_)
 refine W.block ?_
 refine W.loop_start ?_
 refine loopAt_round ?_
 refine W.sr fun K11 hK11 => ?_
 refine zE 1 (hK11 _ _ ?_)
 refine W.seq fun K12 hK12 => ?_
 refine W.cond_true true (by kernel_rfl) rfl ?_
 refine W.skip ?_
 refine hK12 _ _ ?_
 refine W.seq fun K13 hK13 => ?_
 refine W.block ?_
 refine W.sr fun K14 hK14 => ?_
 refine zR 1 ?_
 refine zN [(.int .u8 0), (.int .i64 0), (.int .i64 0)] 105 hs10 fun b17 w15 hs16 => ?_
 refine ops_store (off := 0) (cs := [(.int .u8 0), (.int .i64 0), (.int .i64 0)]) (vs := [(.int .u8 1), (.int .i64 8), (.int .i64 1)]) hs16 (by kernel_rfl) (by simp) rfl (fun w18 hs19 => ?_)
 have hs20 : St B w [] w18 [blk b17 (.cells [(.int .u8 1), (.int .i64 8), (.int .i64 1)].toArray 105 (0, 0)), blk b4 (.cells [(.int .i64 gw), (.int .i64 gi), (.int .i64 gb)].toArray 23 (0, 0))] := hs19
 refine zD (hK14 _ _ ?_)
 refine W.seq fun K21 hK21 => ?_
 refine W.sr fun K22 hK22 => ?_
 refine zR 1 ?_
 refine zL ⟨b17, 0, none⟩ (.int .u8 1) (hs20.cellAt 0 rfl rfl) ?_
 refine zE 2 (hK22 _ _ ?_)
 refine W.cond_true true (by kernel_rfl) rfl ?_
 refine W.sr fun K23 hK23 => ?_
 refine zR 2 ?_
 refine zL ⟨b17, 1, none⟩ (.int .i64 8) (hs20.cellAt 0 rfl rfl) ?_
 refine zR 1 ?_
 refine zL ⟨b17, 2, none⟩ (.int .i64 1) (hs20.cellAt 0 rfl rfl) ?_
 refine zE 3 (hK23 _ _ ?_)
 refine W.exit (exit_seq (exit_here ?_))
 refine hK13 _ _ ?_
 refine W.region ?_
 refine zE 2 ?_
 refine loopAt_next ?_
 refine loopAt_round ?_
 refine W.sr fun K24 hK24 => ?_
 refine zE 1 (hK24 _ _ ?_)
 refine W.seq fun K25 hK25 => ?_
 refine W.cond_true true (by kernel_rfl) rfl ?_
 refine W.skip ?_
 refine hK25 _ _ ?_
 refine W.seq fun K26 hK26 => ?_
 refine W.block ?_
 refine W.sr fun K27 hK27 => ?_
 refine zR 1 ?_
 refine zN [(.int .u8 0), (.int .i64 0), (.int .i64 0)] 105 hs20 fun b30 w28 hs29 => ?_
 refine ops_store (off := 0) (cs := [(.int .u8 0), (.int .i64 0), (.int .i64 0)]) (vs := [(.int .u8 2), (.int .i64 64), (.int .i64 4)]) hs29 (by kernel_rfl) (by simp) rfl (fun w31 hs32 => ?_)
 have hs33 : St B w [] w31 [blk b30 (.cells [(.int .u8 2), (.int .i64 64), (.int .i64 4)].toArray 105 (0, 0)), blk b17 (.cells [(.int .u8 1), (.int .i64 8), (.int .i64 1)].toArray 105 (0, 0)), blk b4 (.cells [(.int .i64 gw), (.int .i64 gi), (.int .i64 gb)].toArray 23 (0, 0))] := hs32
 refine zD (hK27 _ _ ?_)
 refine W.seq fun K34 hK34 => ?_
 refine W.sr fun K35 hK35 => ?_
 refine zR 1 ?_
 refine zL ⟨b30, 0, none⟩ (.int .u8 2) (hs33.cellAt 0 rfl rfl) ?_
 refine zE 2 (hK35 _ _ ?_)
 refine W.cond_true true (by kernel_rfl) rfl ?_
 refine W.sr fun K36 hK36 => ?_
 refine zR 2 ?_
 refine zL ⟨b30, 1, none⟩ (.int .i64 64) (hs33.cellAt 0 rfl rfl) ?_
 refine zR 1 ?_
 refine zL ⟨b30, 2, none⟩ (.int .i64 4) (hs33.cellAt 0 rfl rfl) ?_
 refine zE 3 (hK36 _ _ ?_)
 refine W.exit (exit_seq (exit_here ?_))
 refine hK26 _ _ ?_
 refine W.region ?_
 refine zE 2 ?_
 refine loopAt_next ?_
 refine loopAt_round ?_
 refine W.sr fun K37 hK37 => ?_
 refine zE 1 (hK37 _ _ ?_)
 refine W.seq fun K38 hK38 => ?_
 refine W.cond_true true (by kernel_rfl) rfl ?_
 refine W.skip ?_
 refine hK38 _ _ ?_
 refine W.seq fun K39 hK39 => ?_
 refine W.block ?_
 refine W.sr fun K40 hK40 => ?_
 refine zR 1 ?_
 refine zN [(.int .u8 0), (.int .i64 0), (.int .i64 0)] 105 hs33 fun b43 w41 hs42 => ?_
 refine ops_store (off := 0) (cs := [(.int .u8 0), (.int .i64 0), (.int .i64 0)]) (vs := [(.int .u8 5), (.int .i64 208), (.int .i64 gw)]) hs42 (by kernel_rfl) (by simp) rfl (fun w44 hs45 => ?_)
 have hs46 : St B w [] w44 [blk b43 (.cells [(.int .u8 5), (.int .i64 208), (.int .i64 gw)].toArray 105 (0, 0)), blk b30 (.cells [(.int .u8 2), (.int .i64 64), (.int .i64 4)].toArray 105 (0, 0)), blk b17 (.cells [(.int .u8 1), (.int .i64 8), (.int .i64 1)].toArray 105 (0, 0)), blk b4 (.cells [(.int .i64 gw), (.int .i64 gi), (.int .i64 gb)].toArray 23 (0, 0))] := hs45
 refine zD (hK40 _ _ ?_)
 refine W.seq fun K47 hK47 => ?_
 refine W.sr fun K48 hK48 => ?_
 refine zR 1 ?_
 refine zL ⟨b43, 0, none⟩ (.int .u8 5) (hs46.cellAt 0 rfl rfl) ?_
 refine zE 2 (hK48 _ _ ?_)
 refine W.cond_true true (by kernel_rfl) rfl ?_
 refine W.sr fun K49 hK49 => ?_
 refine zR 2 ?_
 refine zL ⟨b43, 1, none⟩ (.int .i64 208) (hs46.cellAt 0 rfl rfl) ?_
 refine zR 1 ?_
 refine zL ⟨b43, 2, none⟩ (.int .i64 gw) (hs46.cellAt 0 rfl rfl) ?_
 refine zI (208 * gw) (wrap_i64 (by omega) (by omega)) ?_
 refine zI (264 + (208 * gw)) (wrap_i64 (by omega) (by omega)) ?_
 refine zE 1 (hK49 _ _ ?_)
 refine W.exit (exit_seq (exit_here ?_))
 refine hK39 _ _ ?_
 refine W.region ?_
 refine zE 2 ?_
 refine loopAt_next ?_
 refine loopAt_round ?_
 refine W.sr fun K50 hK50 => ?_
 refine zE 1 (hK50 _ _ ?_)
 refine W.seq fun K51 hK51 => ?_
 refine W.cond_true true (by kernel_rfl) rfl ?_
 refine W.skip ?_
 refine hK51 _ _ ?_
 refine W.seq fun K52 hK52 => ?_
 refine W.block ?_
 refine W.sr fun K53 hK53 => ?_
 refine zR 1 ?_
 refine zN [(.int .u8 0), (.int .i64 0), (.int .i64 0)] 105 hs46 fun b56 w54 hs55 => ?_
 refine ops_store (off := 0) (cs := [(.int .u8 0), (.int .i64 0), (.int .i64 0)]) (vs := [(.int .u8 6), (.int .i64 8), (.int .i64 1)]) hs55 (by kernel_rfl) (by simp) rfl (fun w57 hs58 => ?_)
 have hs59 : St B w [] w57 [blk b56 (.cells [(.int .u8 6), (.int .i64 8), (.int .i64 1)].toArray 105 (0, 0)), blk b43 (.cells [(.int .u8 5), (.int .i64 208), (.int .i64 gw)].toArray 105 (0, 0)), blk b30 (.cells [(.int .u8 2), (.int .i64 64), (.int .i64 4)].toArray 105 (0, 0)), blk b17 (.cells [(.int .u8 1), (.int .i64 8), (.int .i64 1)].toArray 105 (0, 0)), blk b4 (.cells [(.int .i64 gw), (.int .i64 gi), (.int .i64 gb)].toArray 23 (0, 0))] := hs58
 refine zD (hK53 _ _ ?_)
 refine W.seq fun K60 hK60 => ?_
 refine W.sr fun K61 hK61 => ?_
 refine zR 1 ?_
 refine zL ⟨b56, 0, none⟩ (.int .u8 6) (hs59.cellAt 0 rfl rfl) ?_
 refine zE 2 (hK61 _ _ ?_)
 refine W.cond_true true (by kernel_rfl) rfl ?_
 refine W.sr fun K62 hK62 => ?_
 refine zR 2 ?_
 refine zL ⟨b56, 1, none⟩ (.int .i64 8) (hs59.cellAt 0 rfl rfl) ?_
 refine zR 1 ?_
 refine zL ⟨b56, 2, none⟩ (.int .i64 1) (hs59.cellAt 0 rfl rfl) ?_
 refine zR 1 ?_
 refine zI ((264 + (208 * gw)) + 8) (wrap_i64 (by omega) (by omega)) ?_
 refine zE 1 (hK62 _ _ ?_)
 refine W.exit (exit_seq (exit_here ?_))
 refine hK52 _ _ ?_
 refine W.region ?_
 refine zE 2 ?_
 refine loopAt_next ?_
 refine loopAt_round ?_
 refine W.sr fun K63 hK63 => ?_
 refine zE 1 (hK63 _ _ ?_)
 refine W.seq fun K64 hK64 => ?_
 refine W.cond_true true (by kernel_rfl) rfl ?_
 refine W.skip ?_
 refine hK64 _ _ ?_
 refine W.seq fun K65 hK65 => ?_
 refine W.block ?_
 refine W.sr fun K66 hK66 => ?_
 refine zR 1 ?_
 refine zN [(.int .u8 0), (.int .i64 0), (.int .i64 0)] 105 hs59 fun b69 w67 hs68 => ?_
 refine ops_store (off := 0) (cs := [(.int .u8 0), (.int .i64 0), (.int .i64 0)]) (vs := [(.int .u8 7), (.int .i64 8), (.int .i64 1)]) hs68 (by kernel_rfl) (by simp) rfl (fun w70 hs71 => ?_)
 have hs72 : St B w [] w70 [blk b69 (.cells [(.int .u8 7), (.int .i64 8), (.int .i64 1)].toArray 105 (0, 0)), blk b56 (.cells [(.int .u8 6), (.int .i64 8), (.int .i64 1)].toArray 105 (0, 0)), blk b43 (.cells [(.int .u8 5), (.int .i64 208), (.int .i64 gw)].toArray 105 (0, 0)), blk b30 (.cells [(.int .u8 2), (.int .i64 64), (.int .i64 4)].toArray 105 (0, 0)), blk b17 (.cells [(.int .u8 1), (.int .i64 8), (.int .i64 1)].toArray 105 (0, 0)), blk b4 (.cells [(.int .i64 gw), (.int .i64 gi), (.int .i64 gb)].toArray 23 (0, 0))] := hs71
 refine zD (hK66 _ _ ?_)
 refine W.seq fun K73 hK73 => ?_
 refine W.sr fun K74 hK74 => ?_
 refine zR 1 ?_
 refine zL ⟨b69, 0, none⟩ (.int .u8 7) (hs72.cellAt 0 rfl rfl) ?_
 refine zE 2 (hK74 _ _ ?_)
 refine W.cond_true true (by kernel_rfl) rfl ?_
 refine W.sr fun K75 hK75 => ?_
 refine zR 2 ?_
 refine zL ⟨b69, 1, none⟩ (.int .i64 8) (hs72.cellAt 0 rfl rfl) ?_
 refine zR 1 ?_
 refine zL ⟨b69, 2, none⟩ (.int .i64 1) (hs72.cellAt 0 rfl rfl) ?_
 refine zR 1 ?_
 refine zI (((264 + (208 * gw)) + 8) + 8) (wrap_i64 (by omega) (by omega)) ?_
 refine zE 1 (hK75 _ _ ?_)
 refine W.exit (exit_seq (exit_here ?_))
 refine hK65 _ _ ?_
 refine W.region ?_
 refine zE 2 ?_
 refine loopAt_next ?_
 refine loopAt_round ?_
 refine W.sr fun K76 hK76 => ?_
 refine zE 1 (hK76 _ _ ?_)
 refine W.seq fun K77 hK77 => ?_
 refine W.cond_true true (by kernel_rfl) rfl ?_
 refine W.skip ?_
 refine hK77 _ _ ?_
 refine W.seq fun K78 hK78 => ?_
 refine W.block ?_
 refine W.sr fun K79 hK79 => ?_
 refine zR 1 ?_
 refine zN [(.int .u8 0), (.int .i64 0), (.int .i64 0)] 105 hs72 fun b82 w80 hs81 => ?_
 refine ops_store (off := 0) (cs := [(.int .u8 0), (.int .i64 0), (.int .i64 0)]) (vs := [(.int .u8 8), (.int .i64 16), (.int .i64 gi)]) hs81 (by kernel_rfl) (by simp) rfl (fun w83 hs84 => ?_)
 have hs85 : St B w [] w83 [blk b82 (.cells [(.int .u8 8), (.int .i64 16), (.int .i64 gi)].toArray 105 (0, 0)), blk b69 (.cells [(.int .u8 7), (.int .i64 8), (.int .i64 1)].toArray 105 (0, 0)), blk b56 (.cells [(.int .u8 6), (.int .i64 8), (.int .i64 1)].toArray 105 (0, 0)), blk b43 (.cells [(.int .u8 5), (.int .i64 208), (.int .i64 gw)].toArray 105 (0, 0)), blk b30 (.cells [(.int .u8 2), (.int .i64 64), (.int .i64 4)].toArray 105 (0, 0)), blk b17 (.cells [(.int .u8 1), (.int .i64 8), (.int .i64 1)].toArray 105 (0, 0)), blk b4 (.cells [(.int .i64 gw), (.int .i64 gi), (.int .i64 gb)].toArray 23 (0, 0))] := hs84
 refine zD (hK79 _ _ ?_)
 refine W.seq fun K86 hK86 => ?_
 refine W.sr fun K87 hK87 => ?_
 refine zR 1 ?_
 refine zL ⟨b82, 0, none⟩ (.int .u8 8) (hs85.cellAt 0 rfl rfl) ?_
 refine zE 2 (hK87 _ _ ?_)
 refine W.cond_false false (by kernel_rfl) rfl ?_
 refine W.skip ?_
 refine hK86 _ _ ?_
 refine W.seq fun K88 hK88 => ?_
 refine W.sr fun K89 hK89 => ?_
 refine ops_R (runs_loadAgg (ad := ⟨b4, 0, none⟩) (cs := [(.int .i64 gw), (.int .i64 gi), (.int .i64 gb)]) (by kernel_rfl) (cells_sub (hs85.heapAt 6 rfl) rfl)) ?_
 refine zC00 hs85 (may_spec (gw := gw) (gi := gi) (gb := gb) B _) fun w90 hs92 => ?_
 refine zR 1 ?_
 rcases Bool.eq_false_or_eq_true (decide (May gw gi gb)) with h93 | h93
 ·
  have h93p := of_decide_eq_true h93
  refine zS 28 h93 ?_
  refine zS 27 h93 ?_
  refine zR 2 ?_
  refine zL ⟨b82, 2, none⟩ (.int .i64 gi) (hs92.cellAt 0 rfl rfl) ?_
  refine zI (gi - 1) (wrap_i64 (by omega) (by omega)) ?_
  refine zC00 hs92 (within_spec (n_ := n_) (f_ := 0) (t_ := (gi - 1)) B _) fun w94 hs96 => ?_
  refine zE 1 (hK89 _ _ ?_)
  refine W.cond (decide (0 ≤ n_ ∧ n_ ≤ (gi - 1))) (by kernel_rfl) (fun h97 => ?_) (fun h97 => ?_)
  ·
   have h97p := of_decide_eq_true h97
   refine W.sr fun K98 hK98 => ?_
   refine zR 2 ?_
   refine zL ⟨b82, 1, none⟩ (.int .i64 16) (hs96.cellAt 0 rfl rfl) ?_
   refine zR 1 ?_
   refine zI (16 * n_) (wrap_i64 (by omega) (by omega)) ?_
   refine zI ((((264 + (208 * gw)) + 8) + 8) + (16 * n_)) (wrap_i64 (by omega) (by omega)) ?_
   refine zE 1 (hK98 _ _ ?_)
   refine W.ret (ret_seq (ret_block (ret_seq (ret_seq (ret_block (ret_seq ?_))))))
   have hs99 := St.tk0 hs96
   refine ret_of (.int .i64 ((((264 + (208 * gw)) + 8) + 8) + (16 * n_))) (by kernel_rfl) ⟨_, ⟨congrArg (Value.int .i64) (by first | contradiction | (simp only [placeOf, if_pos hm]; split <;> omega) | (simp only [placeOf, if_neg hm]; done) | (simp only [placeOf, if_pos hm]; omega)), rfl⟩, hs99⟩
  ·
   have h97p := of_decide_eq_false h97
   refine W.skip ?_
   refine hK88 _ _ ?_
   refine W.exit (exit_block (by decide) (exit_seq (exit_seq (exit_here ?_))))
   refine hK6 _ _ ?_
   refine W.sr fun K100 hK100 => ?_
   refine zE 1 (hK100 _ _ ?_)
   refine W.ret ?_
   have hs101 := St.tk0 hs96
   refine ret_of (.int .i64 (-1)) (by kernel_rfl) ⟨_, ⟨congrArg (Value.int .i64) (by first | contradiction | (simp only [placeOf, if_pos hm]; split <;> omega) | (simp only [placeOf, if_neg hm]; done) | (simp only [placeOf, if_pos hm]; omega)), rfl⟩, hs101⟩
 ·
  have h93p := of_decide_eq_false h93
  refine zS 28 h93 ?_
  refine zS 27 h93 ?_
  refine zE 6 (hK89 _ _ ?_)
  refine W.cond_false false (by kernel_rfl) rfl ?_
  refine W.skip ?_
  refine hK88 _ _ ?_
  refine W.exit (exit_block (by decide) (exit_seq (exit_seq (exit_here ?_))))
  refine hK6 _ _ ?_
  refine W.sr fun K102 hK102 => ?_
  refine zE 1 (hK102 _ _ ?_)
  refine W.ret ?_
  have hs103 := St.tk0 hs92
  refine ret_of (.int .i64 (-1)) (by kernel_rfl) ⟨_, ⟨congrArg (Value.int .i64) (by first | contradiction | (simp only [placeOf, if_pos hm]; split <;> omega) | (simp only [placeOf, if_neg hm]; done) | (simp only [placeOf, if_pos hm]; omega)), rfl⟩, hs103⟩

theorem place8_not {gw gi gb n_ : Int} (B : Nat) (w : World) (hm : ¬ May gw gi gb) : Spec Tryd.prog 53 #[(.agg #[(.int .i64 gw), (.int .i64 gi), (.int .i64 gb)]), (.int .u8 8), (.int .i64 n_)] B w [] (fun v H' => v = .int .i64 (placeOf 8 gw gi gb n_) ∧ H' = []) := by
 refine spec_Q Tryd.func53 rfl fun hs => ?_
 refine W.sr fun K1 hK1 => ?_
 refine zN [(.int .i64 gw), (.int .i64 gi), (.int .i64 gb)] 23 hs fun b4 w2 hs3 => ?_
 refine zE 1 (hK1 _ _ ?_)
 refine W.sr fun K5 hK5 => ?_
 refine zE 1 (hK5 _ _ ?_)
 refine W.seq fun K6 hK6 => ?_
 refine W.sr fun K7 hK7 => ?_
 refine ops_R (runs_loadAgg (ad := ⟨b4, 0, none⟩) (cs := [(.int .i64 gw), (.int .i64 gi), (.int .i64 gb)]) (by kernel_rfl) (cells_sub (hs3.heapAt 0 rfl) rfl)) ?_
 refine zC00 hs3 (rows_spec (gw := gw) (gi := gi) (gb := gb) B _) fun w8 hs10 => ?_
 refine zE 1 (hK7 _ _ ?_)
 refine W.block ?_
 refine W.loop_start ?_
 refine loopAt_round ?_
 refine W.sr fun K11 hK11 => ?_
 refine zE 1 (hK11 _ _ ?_)
 refine W.seq fun K12 hK12 => ?_
 refine W.cond_true true (by kernel_rfl) rfl ?_
 refine W.skip ?_
 refine hK12 _ _ ?_
 refine W.seq fun K13 hK13 => ?_
 refine W.block ?_
 refine W.sr fun K14 hK14 => ?_
 refine zR 1 ?_
 refine zN [(.int .u8 0), (.int .i64 0), (.int .i64 0)] 105 hs10 fun b17 w15 hs16 => ?_
 refine ops_store (off := 0) (cs := [(.int .u8 0), (.int .i64 0), (.int .i64 0)]) (vs := [(.int .u8 1), (.int .i64 8), (.int .i64 1)]) hs16 (by kernel_rfl) (by simp) rfl (fun w18 hs19 => ?_)
 have hs20 : St B w [] w18 [blk b17 (.cells [(.int .u8 1), (.int .i64 8), (.int .i64 1)].toArray 105 (0, 0)), blk b4 (.cells [(.int .i64 gw), (.int .i64 gi), (.int .i64 gb)].toArray 23 (0, 0))] := hs19
 refine zD (hK14 _ _ ?_)
 refine W.seq fun K21 hK21 => ?_
 refine W.sr fun K22 hK22 => ?_
 refine zR 1 ?_
 refine zL ⟨b17, 0, none⟩ (.int .u8 1) (hs20.cellAt 0 rfl rfl) ?_
 refine zE 2 (hK22 _ _ ?_)
 refine W.cond_true true (by kernel_rfl) rfl ?_
 refine W.sr fun K23 hK23 => ?_
 refine zR 2 ?_
 refine zL ⟨b17, 1, none⟩ (.int .i64 8) (hs20.cellAt 0 rfl rfl) ?_
 refine zR 1 ?_
 refine zL ⟨b17, 2, none⟩ (.int .i64 1) (hs20.cellAt 0 rfl rfl) ?_
 refine zE 3 (hK23 _ _ ?_)
 refine W.exit (exit_seq (exit_here ?_))
 refine hK13 _ _ ?_
 refine W.region ?_
 refine zE 2 ?_
 refine loopAt_next ?_
 refine loopAt_round ?_
 refine W.sr fun K24 hK24 => ?_
 refine zE 1 (hK24 _ _ ?_)
 refine W.seq fun K25 hK25 => ?_
 refine W.cond_true true (by kernel_rfl) rfl ?_
 refine W.skip ?_
 refine hK25 _ _ ?_
 refine W.seq fun K26 hK26 => ?_
 refine W.block ?_
 refine W.sr fun K27 hK27 => ?_
 refine zR 1 ?_
 refine zN [(.int .u8 0), (.int .i64 0), (.int .i64 0)] 105 hs20 fun b30 w28 hs29 => ?_
 refine ops_store (off := 0) (cs := [(.int .u8 0), (.int .i64 0), (.int .i64 0)]) (vs := [(.int .u8 2), (.int .i64 64), (.int .i64 4)]) hs29 (by kernel_rfl) (by simp) rfl (fun w31 hs32 => ?_)
 have hs33 : St B w [] w31 [blk b30 (.cells [(.int .u8 2), (.int .i64 64), (.int .i64 4)].toArray 105 (0, 0)), blk b17 (.cells [(.int .u8 1), (.int .i64 8), (.int .i64 1)].toArray 105 (0, 0)), blk b4 (.cells [(.int .i64 gw), (.int .i64 gi), (.int .i64 gb)].toArray 23 (0, 0))] := hs32
 refine zD (hK27 _ _ ?_)
 refine W.seq fun K34 hK34 => ?_
 refine W.sr fun K35 hK35 => ?_
 refine zR 1 ?_
 refine zL ⟨b30, 0, none⟩ (.int .u8 2) (hs33.cellAt 0 rfl rfl) ?_
 refine zE 2 (hK35 _ _ ?_)
 refine W.cond_true true (by kernel_rfl) rfl ?_
 refine W.sr fun K36 hK36 => ?_
 refine zR 2 ?_
 refine zL ⟨b30, 1, none⟩ (.int .i64 64) (hs33.cellAt 0 rfl rfl) ?_
 refine zR 1 ?_
 refine zL ⟨b30, 2, none⟩ (.int .i64 4) (hs33.cellAt 0 rfl rfl) ?_
 refine zE 3 (hK36 _ _ ?_)
 refine W.exit (exit_seq (exit_here ?_))
 refine hK26 _ _ ?_
 refine W.region ?_
 refine zE 2 ?_
 refine loopAt_next ?_
 refine loopAt_round ?_
 refine W.sr fun K37 hK37 => ?_
 refine zE 1 (hK37 _ _ ?_)
 refine W.seq fun K38 hK38 => ?_
 refine W.cond_true true (by kernel_rfl) rfl ?_
 refine W.skip ?_
 refine hK38 _ _ ?_
 refine W.seq fun K39 hK39 => ?_
 refine W.block ?_
 refine W.sr fun K40 hK40 => ?_
 refine zR 1 ?_
 refine zN [(.int .u8 0), (.int .i64 0), (.int .i64 0)] 105 hs33 fun b43 w41 hs42 => ?_
 refine ops_store (off := 0) (cs := [(.int .u8 0), (.int .i64 0), (.int .i64 0)]) (vs := [(.int .u8 5), (.int .i64 208), (.int .i64 gw)]) hs42 (by kernel_rfl) (by simp) rfl (fun w44 hs45 => ?_)
 have hs46 : St B w [] w44 [blk b43 (.cells [(.int .u8 5), (.int .i64 208), (.int .i64 gw)].toArray 105 (0, 0)), blk b30 (.cells [(.int .u8 2), (.int .i64 64), (.int .i64 4)].toArray 105 (0, 0)), blk b17 (.cells [(.int .u8 1), (.int .i64 8), (.int .i64 1)].toArray 105 (0, 0)), blk b4 (.cells [(.int .i64 gw), (.int .i64 gi), (.int .i64 gb)].toArray 23 (0, 0))] := hs45
 refine zD (hK40 _ _ ?_)
 refine W.seq fun K47 hK47 => ?_
 refine W.sr fun K48 hK48 => ?_
 refine zR 1 ?_
 refine zL ⟨b43, 0, none⟩ (.int .u8 5) (hs46.cellAt 0 rfl rfl) ?_
 refine zE 2 (hK48 _ _ ?_)
 refine W.cond_true true (by kernel_rfl) rfl ?_
 refine W.sr fun K49 hK49 => ?_
 refine zR 2 ?_
 refine zL ⟨b43, 1, none⟩ (.int .i64 208) (hs46.cellAt 0 rfl rfl) ?_
 refine zR 1 ?_
 refine zL ⟨b43, 2, none⟩ (.int .i64 gw) (hs46.cellAt 0 rfl rfl) ?_
 refine ops_val (v := .int .i64 (IntKind.i64.wrap (208 * gw))) (v' := .int .i64 (IntKind.i64.wrap (208 * gw))) (by kernel_rfl) rfl ?_
 refine ops_val (v := .int .i64 (IntKind.i64.wrap (264 + (IntKind.i64.wrap (208 * gw))))) (v' := .int .i64 (IntKind.i64.wrap (264 + (IntKind.i64.wrap (208 * gw))))) (by kernel_rfl) rfl ?_
 refine zE 1 (hK49 _ _ ?_)
 refine W.exit (exit_seq (exit_here ?_))
 refine hK39 _ _ ?_
 refine W.region ?_
 refine zE 2 ?_
 refine loopAt_next ?_
 refine loopAt_round ?_
 refine W.sr fun K50 hK50 => ?_
 refine zE 1 (hK50 _ _ ?_)
 refine W.seq fun K51 hK51 => ?_
 refine W.cond_true true (by kernel_rfl) rfl ?_
 refine W.skip ?_
 refine hK51 _ _ ?_
 refine W.seq fun K52 hK52 => ?_
 refine W.block ?_
 refine W.sr fun K53 hK53 => ?_
 refine zR 1 ?_
 refine zN [(.int .u8 0), (.int .i64 0), (.int .i64 0)] 105 hs46 fun b56 w54 hs55 => ?_
 refine ops_store (off := 0) (cs := [(.int .u8 0), (.int .i64 0), (.int .i64 0)]) (vs := [(.int .u8 6), (.int .i64 8), (.int .i64 1)]) hs55 (by kernel_rfl) (by simp) rfl (fun w57 hs58 => ?_)
 have hs59 : St B w [] w57 [blk b56 (.cells [(.int .u8 6), (.int .i64 8), (.int .i64 1)].toArray 105 (0, 0)), blk b43 (.cells [(.int .u8 5), (.int .i64 208), (.int .i64 gw)].toArray 105 (0, 0)), blk b30 (.cells [(.int .u8 2), (.int .i64 64), (.int .i64 4)].toArray 105 (0, 0)), blk b17 (.cells [(.int .u8 1), (.int .i64 8), (.int .i64 1)].toArray 105 (0, 0)), blk b4 (.cells [(.int .i64 gw), (.int .i64 gi), (.int .i64 gb)].toArray 23 (0, 0))] := hs58
 refine zD (hK53 _ _ ?_)
 refine W.seq fun K60 hK60 => ?_
 refine W.sr fun K61 hK61 => ?_
 refine zR 1 ?_
 refine zL ⟨b56, 0, none⟩ (.int .u8 6) (hs59.cellAt 0 rfl rfl) ?_
 refine zE 2 (hK61 _ _ ?_)
 refine W.cond_true true (by kernel_rfl) rfl ?_
 refine W.sr fun K62 hK62 => ?_
 refine zR 2 ?_
 refine zL ⟨b56, 1, none⟩ (.int .i64 8) (hs59.cellAt 0 rfl rfl) ?_
 refine zR 1 ?_
 refine zL ⟨b56, 2, none⟩ (.int .i64 1) (hs59.cellAt 0 rfl rfl) ?_
 refine zR 1 ?_
 refine ops_val (v := .int .i64 (IntKind.i64.wrap ((IntKind.i64.wrap (264 + (IntKind.i64.wrap (208 * gw)))) + 8))) (v' := .int .i64 (IntKind.i64.wrap ((IntKind.i64.wrap (264 + (IntKind.i64.wrap (208 * gw)))) + 8))) (by kernel_rfl) rfl ?_
 refine zE 1 (hK62 _ _ ?_)
 refine W.exit (exit_seq (exit_here ?_))
 refine hK52 _ _ ?_
 refine W.region ?_
 refine zE 2 ?_
 refine loopAt_next ?_
 refine loopAt_round ?_
 refine W.sr fun K63 hK63 => ?_
 refine zE 1 (hK63 _ _ ?_)
 refine W.seq fun K64 hK64 => ?_
 refine W.cond_true true (by kernel_rfl) rfl ?_
 refine W.skip ?_
 refine hK64 _ _ ?_
 refine W.seq fun K65 hK65 => ?_
 refine W.block ?_
 refine W.sr fun K66 hK66 => ?_
 refine zR 1 ?_
 refine zN [(.int .u8 0), (.int .i64 0), (.int .i64 0)] 105 hs59 fun b69 w67 hs68 => ?_
 refine ops_store (off := 0) (cs := [(.int .u8 0), (.int .i64 0), (.int .i64 0)]) (vs := [(.int .u8 7), (.int .i64 8), (.int .i64 1)]) hs68 (by kernel_rfl) (by simp) rfl (fun w70 hs71 => ?_)
 have hs72 : St B w [] w70 [blk b69 (.cells [(.int .u8 7), (.int .i64 8), (.int .i64 1)].toArray 105 (0, 0)), blk b56 (.cells [(.int .u8 6), (.int .i64 8), (.int .i64 1)].toArray 105 (0, 0)), blk b43 (.cells [(.int .u8 5), (.int .i64 208), (.int .i64 gw)].toArray 105 (0, 0)), blk b30 (.cells [(.int .u8 2), (.int .i64 64), (.int .i64 4)].toArray 105 (0, 0)), blk b17 (.cells [(.int .u8 1), (.int .i64 8), (.int .i64 1)].toArray 105 (0, 0)), blk b4 (.cells [(.int .i64 gw), (.int .i64 gi), (.int .i64 gb)].toArray 23 (0, 0))] := hs71
 refine zD (hK66 _ _ ?_)
 refine W.seq fun K73 hK73 => ?_
 refine W.sr fun K74 hK74 => ?_
 refine zR 1 ?_
 refine zL ⟨b69, 0, none⟩ (.int .u8 7) (hs72.cellAt 0 rfl rfl) ?_
 refine zE 2 (hK74 _ _ ?_)
 refine W.cond_true true (by kernel_rfl) rfl ?_
 refine W.sr fun K75 hK75 => ?_
 refine zR 2 ?_
 refine zL ⟨b69, 1, none⟩ (.int .i64 8) (hs72.cellAt 0 rfl rfl) ?_
 refine zR 1 ?_
 refine zL ⟨b69, 2, none⟩ (.int .i64 1) (hs72.cellAt 0 rfl rfl) ?_
 refine zR 1 ?_
 refine ops_val (v := .int .i64 (IntKind.i64.wrap ((IntKind.i64.wrap ((IntKind.i64.wrap (264 + (IntKind.i64.wrap (208 * gw)))) + 8)) + 8))) (v' := .int .i64 (IntKind.i64.wrap ((IntKind.i64.wrap ((IntKind.i64.wrap (264 + (IntKind.i64.wrap (208 * gw)))) + 8)) + 8))) (by kernel_rfl) rfl ?_
 refine zE 1 (hK75 _ _ ?_)
 refine W.exit (exit_seq (exit_here ?_))
 refine hK65 _ _ ?_
 refine W.region ?_
 refine zE 2 ?_
 refine loopAt_next ?_
 refine loopAt_round ?_
 refine W.sr fun K76 hK76 => ?_
 refine zE 1 (hK76 _ _ ?_)
 refine W.seq fun K77 hK77 => ?_
 refine W.cond_true true (by kernel_rfl) rfl ?_
 refine W.skip ?_
 refine hK77 _ _ ?_
 refine W.seq fun K78 hK78 => ?_
 refine W.block ?_
 refine W.sr fun K79 hK79 => ?_
 refine zR 1 ?_
 refine zN [(.int .u8 0), (.int .i64 0), (.int .i64 0)] 105 hs72 fun b82 w80 hs81 => ?_
 refine ops_store (off := 0) (cs := [(.int .u8 0), (.int .i64 0), (.int .i64 0)]) (vs := [(.int .u8 8), (.int .i64 16), (.int .i64 gi)]) hs81 (by kernel_rfl) (by simp) rfl (fun w83 hs84 => ?_)
 have hs85 : St B w [] w83 [blk b82 (.cells [(.int .u8 8), (.int .i64 16), (.int .i64 gi)].toArray 105 (0, 0)), blk b69 (.cells [(.int .u8 7), (.int .i64 8), (.int .i64 1)].toArray 105 (0, 0)), blk b56 (.cells [(.int .u8 6), (.int .i64 8), (.int .i64 1)].toArray 105 (0, 0)), blk b43 (.cells [(.int .u8 5), (.int .i64 208), (.int .i64 gw)].toArray 105 (0, 0)), blk b30 (.cells [(.int .u8 2), (.int .i64 64), (.int .i64 4)].toArray 105 (0, 0)), blk b17 (.cells [(.int .u8 1), (.int .i64 8), (.int .i64 1)].toArray 105 (0, 0)), blk b4 (.cells [(.int .i64 gw), (.int .i64 gi), (.int .i64 gb)].toArray 23 (0, 0))] := hs84
 refine zD (hK79 _ _ ?_)
 refine W.seq fun K86 hK86 => ?_
 refine W.sr fun K87 hK87 => ?_
 refine zR 1 ?_
 refine zL ⟨b82, 0, none⟩ (.int .u8 8) (hs85.cellAt 0 rfl rfl) ?_
 refine zE 2 (hK87 _ _ ?_)
 refine W.cond_false false (by kernel_rfl) rfl ?_
 refine W.skip ?_
 refine hK86 _ _ ?_
 refine W.seq fun K88 hK88 => ?_
 refine W.sr fun K89 hK89 => ?_
 refine ops_R (runs_loadAgg (ad := ⟨b4, 0, none⟩) (cs := [(.int .i64 gw), (.int .i64 gi), (.int .i64 gb)]) (by kernel_rfl) (cells_sub (hs85.heapAt 6 rfl) rfl)) ?_
 refine zC00 hs85 (may_spec (gw := gw) (gi := gi) (gb := gb) B _) fun w90 hs92 => ?_
 refine zR 1 ?_
 rcases Bool.eq_false_or_eq_true (decide (May gw gi gb)) with h93 | h93
 ·
  have h93p := of_decide_eq_true h93
  refine zS 28 h93 ?_
  refine zS 27 h93 ?_
  refine zR 2 ?_
  refine zL ⟨b82, 2, none⟩ (.int .i64 gi) (hs92.cellAt 0 rfl rfl) ?_
  refine ops_val (v := .int .i64 (IntKind.i64.wrap (gi - 1))) (v' := .int .i64 (IntKind.i64.wrap (gi - 1))) (by kernel_rfl) rfl ?_
  refine zC00 hs92 (within_spec (n_ := n_) (f_ := 0) (t_ := (IntKind.i64.wrap (gi - 1))) B _) fun w94 hs96 => ?_
  refine zE 1 (hK89 _ _ ?_)
  refine W.cond (decide (0 ≤ n_ ∧ n_ ≤ (IntKind.i64.wrap (gi - 1)))) (by kernel_rfl) (fun h97 => ?_) (fun h97 => ?_)
  ·
   have h97p := of_decide_eq_true h97
   refine W.sr fun K98 hK98 => ?_
   refine zR 2 ?_
   refine zL ⟨b82, 1, none⟩ (.int .i64 16) (hs96.cellAt 0 rfl rfl) ?_
   refine zR 1 ?_
   refine ops_val (v := .int .i64 (IntKind.i64.wrap (16 * n_))) (v' := .int .i64 (IntKind.i64.wrap (16 * n_))) (by kernel_rfl) rfl ?_
   refine ops_val (v := .int .i64 (IntKind.i64.wrap ((IntKind.i64.wrap ((IntKind.i64.wrap ((IntKind.i64.wrap (264 + (IntKind.i64.wrap (208 * gw)))) + 8)) + 8)) + (IntKind.i64.wrap (16 * n_))))) (v' := .int .i64 (IntKind.i64.wrap ((IntKind.i64.wrap ((IntKind.i64.wrap ((IntKind.i64.wrap (264 + (IntKind.i64.wrap (208 * gw)))) + 8)) + 8)) + (IntKind.i64.wrap (16 * n_))))) (by kernel_rfl) rfl ?_
   refine zE 1 (hK98 _ _ ?_)
   refine W.ret (ret_seq (ret_block (ret_seq (ret_seq (ret_block (ret_seq ?_))))))
   have hs99 := St.tk0 hs96
   refine ret_of (.int .i64 (IntKind.i64.wrap ((IntKind.i64.wrap ((IntKind.i64.wrap ((IntKind.i64.wrap (264 + (IntKind.i64.wrap (208 * gw)))) + 8)) + 8)) + (IntKind.i64.wrap (16 * n_))))) (by kernel_rfl) ⟨_, ⟨congrArg (Value.int .i64) (by first | contradiction | (simp only [placeOf, if_pos hm]; split <;> omega) | (simp only [placeOf, if_neg hm]; done) | (simp only [placeOf, if_pos hm]; omega)), rfl⟩, hs99⟩
  ·
   have h97p := of_decide_eq_false h97
   refine W.skip ?_
   refine hK88 _ _ ?_
   refine W.exit (exit_block (by decide) (exit_seq (exit_seq (exit_here ?_))))
   refine hK6 _ _ ?_
   refine W.sr fun K100 hK100 => ?_
   refine zE 1 (hK100 _ _ ?_)
   refine W.ret ?_
   have hs101 := St.tk0 hs96
   refine ret_of (.int .i64 (-1)) (by kernel_rfl) ⟨_, ⟨congrArg (Value.int .i64) (by first | contradiction | (simp only [placeOf, if_pos hm]; split <;> omega) | (simp only [placeOf, if_neg hm]; done) | (simp only [placeOf, if_pos hm]; omega)), rfl⟩, hs101⟩
 ·
  have h93p := of_decide_eq_false h93
  refine zS 28 h93 ?_
  refine zS 27 h93 ?_
  refine zE 6 (hK89 _ _ ?_)
  refine W.cond_false false (by kernel_rfl) rfl ?_
  refine W.skip ?_
  refine hK88 _ _ ?_
  refine W.exit (exit_block (by decide) (exit_seq (exit_seq (exit_here ?_))))
  refine hK6 _ _ ?_
  refine W.sr fun K102 hK102 => ?_
  refine zE 1 (hK102 _ _ ?_)
  refine W.ret ?_
  have hs103 := St.tk0 hs92
  refine ret_of (.int .i64 (-1)) (by kernel_rfl) ⟨_, ⟨congrArg (Value.int .i64) (by first | contradiction | (simp only [placeOf, if_pos hm]; split <;> omega) | (simp only [placeOf, if_neg hm]; done) | (simp only [placeOf, if_pos hm]; omega)), rfl⟩, hs103⟩

theorem place8_spec {gw gi gb n_ : Int} (B : Nat) (w : World) : Spec Tryd.prog 53 #[(.agg #[(.int .i64 gw), (.int .i64 gi), (.int .i64 gb)]), (.int .u8 8), (.int .i64 n_)] B w [] (fun v H' => v = .int .i64 (placeOf 8 gw gi gb n_) ∧ H' = []) := by
 by_cases hm : May gw gi gb
 · exact place8_may B w hm
 · exact place8_not B w hm

theorem place9_may {gw gi gb n_ : Int} (B : Nat) (w : World) (hm : May gw gi gb) : Spec Tryd.prog 53 #[(.agg #[(.int .i64 gw), (.int .i64 gi), (.int .i64 gb)]), (.int .u8 9), (.int .i64 n_)] B w [] (fun v H' => v = .int .i64 (placeOf 9 gw gi gb n_) ∧ H' = []) := by
 refine spec_Q Tryd.func53 rfl fun hs => ?_
 have hm_ : (1 ≤ gw ∧ gw ≤ 4) ∧ (2 ≤ gi ∧ gi ≤ 64) ∧ (2 ≤ gb ∧ gb ≤ 512) := hm
 refine W.sr fun K1 hK1 => ?_
 refine zN [(.int .i64 gw), (.int .i64 gi), (.int .i64 gb)] 23 hs fun b4 w2 hs3 => ?_
 refine zE 1 (hK1 _ _ ?_)
 refine W.sr fun K5 hK5 => ?_
 refine zE 1 (hK5 _ _ ?_)
 refine W.seq fun K6 hK6 => ?_
 refine W.sr fun K7 hK7 => ?_
 refine ops_R (runs_loadAgg (ad := ⟨b4, 0, none⟩) (cs := [(.int .i64 gw), (.int .i64 gi), (.int .i64 gb)]) (by kernel_rfl) (cells_sub (hs3.heapAt 0 rfl) rfl)) ?_
 refine zC00 hs3 (rows_spec (gw := gw) (gi := gi) (gb := gb) B _) fun w8 hs10 => ?_
 refine zE 1 (hK7 _ _ ?_)
 refine W.block ?_
 refine W.loop_start ?_
 refine loopAt_round ?_
 refine W.sr fun K11 hK11 => ?_
 refine zE 1 (hK11 _ _ ?_)
 refine W.seq fun K12 hK12 => ?_
 refine W.cond_true true (by kernel_rfl) rfl ?_
 refine W.skip ?_
 refine hK12 _ _ ?_
 refine W.seq fun K13 hK13 => ?_
 refine W.block ?_
 refine W.sr fun K14 hK14 => ?_
 refine zR 1 ?_
 refine zN [(.int .u8 0), (.int .i64 0), (.int .i64 0)] 105 hs10 fun b17 w15 hs16 => ?_
 refine ops_store (off := 0) (cs := [(.int .u8 0), (.int .i64 0), (.int .i64 0)]) (vs := [(.int .u8 1), (.int .i64 8), (.int .i64 1)]) hs16 (by kernel_rfl) (by simp) rfl (fun w18 hs19 => ?_)
 have hs20 : St B w [] w18 [blk b17 (.cells [(.int .u8 1), (.int .i64 8), (.int .i64 1)].toArray 105 (0, 0)), blk b4 (.cells [(.int .i64 gw), (.int .i64 gi), (.int .i64 gb)].toArray 23 (0, 0))] := hs19
 refine zD (hK14 _ _ ?_)
 refine W.seq fun K21 hK21 => ?_
 refine W.sr fun K22 hK22 => ?_
 refine zR 1 ?_
 refine zL ⟨b17, 0, none⟩ (.int .u8 1) (hs20.cellAt 0 rfl rfl) ?_
 refine zE 2 (hK22 _ _ ?_)
 refine W.cond_true true (by kernel_rfl) rfl ?_
 refine W.sr fun K23 hK23 => ?_
 refine zR 2 ?_
 refine zL ⟨b17, 1, none⟩ (.int .i64 8) (hs20.cellAt 0 rfl rfl) ?_
 refine zR 1 ?_
 refine zL ⟨b17, 2, none⟩ (.int .i64 1) (hs20.cellAt 0 rfl rfl) ?_
 refine zE 3 (hK23 _ _ ?_)
 refine W.exit (exit_seq (exit_here ?_))
 refine hK13 _ _ ?_
 refine W.region ?_
 refine zE 2 ?_
 refine loopAt_next ?_
 refine loopAt_round ?_
 refine W.sr fun K24 hK24 => ?_
 refine zE 1 (hK24 _ _ ?_)
 refine W.seq fun K25 hK25 => ?_
 refine W.cond_true true (by kernel_rfl) rfl ?_
 refine W.skip ?_
 refine hK25 _ _ ?_
 refine W.seq fun K26 hK26 => ?_
 refine W.block ?_
 refine W.sr fun K27 hK27 => ?_
 refine zR 1 ?_
 refine zN [(.int .u8 0), (.int .i64 0), (.int .i64 0)] 105 hs20 fun b30 w28 hs29 => ?_
 refine ops_store (off := 0) (cs := [(.int .u8 0), (.int .i64 0), (.int .i64 0)]) (vs := [(.int .u8 2), (.int .i64 64), (.int .i64 4)]) hs29 (by kernel_rfl) (by simp) rfl (fun w31 hs32 => ?_)
 have hs33 : St B w [] w31 [blk b30 (.cells [(.int .u8 2), (.int .i64 64), (.int .i64 4)].toArray 105 (0, 0)), blk b17 (.cells [(.int .u8 1), (.int .i64 8), (.int .i64 1)].toArray 105 (0, 0)), blk b4 (.cells [(.int .i64 gw), (.int .i64 gi), (.int .i64 gb)].toArray 23 (0, 0))] := hs32
 refine zD (hK27 _ _ ?_)
 refine W.seq fun K34 hK34 => ?_
 refine W.sr fun K35 hK35 => ?_
 refine zR 1 ?_
 refine zL ⟨b30, 0, none⟩ (.int .u8 2) (hs33.cellAt 0 rfl rfl) ?_
 refine zE 2 (hK35 _ _ ?_)
 refine W.cond_true true (by kernel_rfl) rfl ?_
 refine W.sr fun K36 hK36 => ?_
 refine zR 2 ?_
 refine zL ⟨b30, 1, none⟩ (.int .i64 64) (hs33.cellAt 0 rfl rfl) ?_
 refine zR 1 ?_
 refine zL ⟨b30, 2, none⟩ (.int .i64 4) (hs33.cellAt 0 rfl rfl) ?_
 refine zE 3 (hK36 _ _ ?_)
 refine W.exit (exit_seq (exit_here ?_))
 refine hK26 _ _ ?_
 refine W.region ?_
 refine zE 2 ?_
 refine loopAt_next ?_
 refine loopAt_round ?_
 refine W.sr fun K37 hK37 => ?_
 refine zE 1 (hK37 _ _ ?_)
 refine W.seq fun K38 hK38 => ?_
 refine W.cond_true true (by kernel_rfl) rfl ?_
 refine W.skip ?_
 refine hK38 _ _ ?_
 refine W.seq fun K39 hK39 => ?_
 refine W.block ?_
 refine W.sr fun K40 hK40 => ?_
 refine zR 1 ?_
 refine zN [(.int .u8 0), (.int .i64 0), (.int .i64 0)] 105 hs33 fun b43 w41 hs42 => ?_
 refine ops_store (off := 0) (cs := [(.int .u8 0), (.int .i64 0), (.int .i64 0)]) (vs := [(.int .u8 5), (.int .i64 208), (.int .i64 gw)]) hs42 (by kernel_rfl) (by simp) rfl (fun w44 hs45 => ?_)
 have hs46 : St B w [] w44 [blk b43 (.cells [(.int .u8 5), (.int .i64 208), (.int .i64 gw)].toArray 105 (0, 0)), blk b30 (.cells [(.int .u8 2), (.int .i64 64), (.int .i64 4)].toArray 105 (0, 0)), blk b17 (.cells [(.int .u8 1), (.int .i64 8), (.int .i64 1)].toArray 105 (0, 0)), blk b4 (.cells [(.int .i64 gw), (.int .i64 gi), (.int .i64 gb)].toArray 23 (0, 0))] := hs45
 refine zD (hK40 _ _ ?_)
 refine W.seq fun K47 hK47 => ?_
 refine W.sr fun K48 hK48 => ?_
 refine zR 1 ?_
 refine zL ⟨b43, 0, none⟩ (.int .u8 5) (hs46.cellAt 0 rfl rfl) ?_
 refine zE 2 (hK48 _ _ ?_)
 refine W.cond_true true (by kernel_rfl) rfl ?_
 refine W.sr fun K49 hK49 => ?_
 refine zR 2 ?_
 refine zL ⟨b43, 1, none⟩ (.int .i64 208) (hs46.cellAt 0 rfl rfl) ?_
 refine zR 1 ?_
 refine zL ⟨b43, 2, none⟩ (.int .i64 gw) (hs46.cellAt 0 rfl rfl) ?_
 refine zI (208 * gw) (wrap_i64 (by omega) (by omega)) ?_
 refine zI (264 + (208 * gw)) (wrap_i64 (by omega) (by omega)) ?_
 refine zE 1 (hK49 _ _ ?_)
 refine W.exit (exit_seq (exit_here ?_))
 refine hK39 _ _ ?_
 refine W.region ?_
 refine zE 2 ?_
 refine loopAt_next ?_
 refine loopAt_round ?_
 refine W.sr fun K50 hK50 => ?_
 refine zE 1 (hK50 _ _ ?_)
 refine W.seq fun K51 hK51 => ?_
 refine W.cond_true true (by kernel_rfl) rfl ?_
 refine W.skip ?_
 refine hK51 _ _ ?_
 refine W.seq fun K52 hK52 => ?_
 refine W.block ?_
 refine W.sr fun K53 hK53 => ?_
 refine zR 1 ?_
 refine zN [(.int .u8 0), (.int .i64 0), (.int .i64 0)] 105 hs46 fun b56 w54 hs55 => ?_
 refine ops_store (off := 0) (cs := [(.int .u8 0), (.int .i64 0), (.int .i64 0)]) (vs := [(.int .u8 6), (.int .i64 8), (.int .i64 1)]) hs55 (by kernel_rfl) (by simp) rfl (fun w57 hs58 => ?_)
 have hs59 : St B w [] w57 [blk b56 (.cells [(.int .u8 6), (.int .i64 8), (.int .i64 1)].toArray 105 (0, 0)), blk b43 (.cells [(.int .u8 5), (.int .i64 208), (.int .i64 gw)].toArray 105 (0, 0)), blk b30 (.cells [(.int .u8 2), (.int .i64 64), (.int .i64 4)].toArray 105 (0, 0)), blk b17 (.cells [(.int .u8 1), (.int .i64 8), (.int .i64 1)].toArray 105 (0, 0)), blk b4 (.cells [(.int .i64 gw), (.int .i64 gi), (.int .i64 gb)].toArray 23 (0, 0))] := hs58
 refine zD (hK53 _ _ ?_)
 refine W.seq fun K60 hK60 => ?_
 refine W.sr fun K61 hK61 => ?_
 refine zR 1 ?_
 refine zL ⟨b56, 0, none⟩ (.int .u8 6) (hs59.cellAt 0 rfl rfl) ?_
 refine zE 2 (hK61 _ _ ?_)
 refine W.cond_true true (by kernel_rfl) rfl ?_
 refine W.sr fun K62 hK62 => ?_
 refine zR 2 ?_
 refine zL ⟨b56, 1, none⟩ (.int .i64 8) (hs59.cellAt 0 rfl rfl) ?_
 refine zR 1 ?_
 refine zL ⟨b56, 2, none⟩ (.int .i64 1) (hs59.cellAt 0 rfl rfl) ?_
 refine zR 1 ?_
 refine zI ((264 + (208 * gw)) + 8) (wrap_i64 (by omega) (by omega)) ?_
 refine zE 1 (hK62 _ _ ?_)
 refine W.exit (exit_seq (exit_here ?_))
 refine hK52 _ _ ?_
 refine W.region ?_
 refine zE 2 ?_
 refine loopAt_next ?_
 refine loopAt_round ?_
 refine W.sr fun K63 hK63 => ?_
 refine zE 1 (hK63 _ _ ?_)
 refine W.seq fun K64 hK64 => ?_
 refine W.cond_true true (by kernel_rfl) rfl ?_
 refine W.skip ?_
 refine hK64 _ _ ?_
 refine W.seq fun K65 hK65 => ?_
 refine W.block ?_
 refine W.sr fun K66 hK66 => ?_
 refine zR 1 ?_
 refine zN [(.int .u8 0), (.int .i64 0), (.int .i64 0)] 105 hs59 fun b69 w67 hs68 => ?_
 refine ops_store (off := 0) (cs := [(.int .u8 0), (.int .i64 0), (.int .i64 0)]) (vs := [(.int .u8 7), (.int .i64 8), (.int .i64 1)]) hs68 (by kernel_rfl) (by simp) rfl (fun w70 hs71 => ?_)
 have hs72 : St B w [] w70 [blk b69 (.cells [(.int .u8 7), (.int .i64 8), (.int .i64 1)].toArray 105 (0, 0)), blk b56 (.cells [(.int .u8 6), (.int .i64 8), (.int .i64 1)].toArray 105 (0, 0)), blk b43 (.cells [(.int .u8 5), (.int .i64 208), (.int .i64 gw)].toArray 105 (0, 0)), blk b30 (.cells [(.int .u8 2), (.int .i64 64), (.int .i64 4)].toArray 105 (0, 0)), blk b17 (.cells [(.int .u8 1), (.int .i64 8), (.int .i64 1)].toArray 105 (0, 0)), blk b4 (.cells [(.int .i64 gw), (.int .i64 gi), (.int .i64 gb)].toArray 23 (0, 0))] := hs71
 refine zD (hK66 _ _ ?_)
 refine W.seq fun K73 hK73 => ?_
 refine W.sr fun K74 hK74 => ?_
 refine zR 1 ?_
 refine zL ⟨b69, 0, none⟩ (.int .u8 7) (hs72.cellAt 0 rfl rfl) ?_
 refine zE 2 (hK74 _ _ ?_)
 refine W.cond_true true (by kernel_rfl) rfl ?_
 refine W.sr fun K75 hK75 => ?_
 refine zR 2 ?_
 refine zL ⟨b69, 1, none⟩ (.int .i64 8) (hs72.cellAt 0 rfl rfl) ?_
 refine zR 1 ?_
 refine zL ⟨b69, 2, none⟩ (.int .i64 1) (hs72.cellAt 0 rfl rfl) ?_
 refine zR 1 ?_
 refine zI (((264 + (208 * gw)) + 8) + 8) (wrap_i64 (by omega) (by omega)) ?_
 refine zE 1 (hK75 _ _ ?_)
 refine W.exit (exit_seq (exit_here ?_))
 refine hK65 _ _ ?_
 refine W.region ?_
 refine zE 2 ?_
 refine loopAt_next ?_
 refine loopAt_round ?_
 refine W.sr fun K76 hK76 => ?_
 refine zE 1 (hK76 _ _ ?_)
 refine W.seq fun K77 hK77 => ?_
 refine W.cond_true true (by kernel_rfl) rfl ?_
 refine W.skip ?_
 refine hK77 _ _ ?_
 refine W.seq fun K78 hK78 => ?_
 refine W.block ?_
 refine W.sr fun K79 hK79 => ?_
 refine zR 1 ?_
 refine zN [(.int .u8 0), (.int .i64 0), (.int .i64 0)] 105 hs72 fun b82 w80 hs81 => ?_
 refine ops_store (off := 0) (cs := [(.int .u8 0), (.int .i64 0), (.int .i64 0)]) (vs := [(.int .u8 8), (.int .i64 16), (.int .i64 gi)]) hs81 (by kernel_rfl) (by simp) rfl (fun w83 hs84 => ?_)
 have hs85 : St B w [] w83 [blk b82 (.cells [(.int .u8 8), (.int .i64 16), (.int .i64 gi)].toArray 105 (0, 0)), blk b69 (.cells [(.int .u8 7), (.int .i64 8), (.int .i64 1)].toArray 105 (0, 0)), blk b56 (.cells [(.int .u8 6), (.int .i64 8), (.int .i64 1)].toArray 105 (0, 0)), blk b43 (.cells [(.int .u8 5), (.int .i64 208), (.int .i64 gw)].toArray 105 (0, 0)), blk b30 (.cells [(.int .u8 2), (.int .i64 64), (.int .i64 4)].toArray 105 (0, 0)), blk b17 (.cells [(.int .u8 1), (.int .i64 8), (.int .i64 1)].toArray 105 (0, 0)), blk b4 (.cells [(.int .i64 gw), (.int .i64 gi), (.int .i64 gb)].toArray 23 (0, 0))] := hs84
 refine zD (hK79 _ _ ?_)
 refine W.seq fun K86 hK86 => ?_
 refine W.sr fun K87 hK87 => ?_
 refine zR 1 ?_
 refine zL ⟨b82, 0, none⟩ (.int .u8 8) (hs85.cellAt 0 rfl rfl) ?_
 refine zE 2 (hK87 _ _ ?_)
 refine W.cond_true true (by kernel_rfl) rfl ?_
 refine W.sr fun K88 hK88 => ?_
 refine zR 2 ?_
 refine zL ⟨b82, 1, none⟩ (.int .i64 16) (hs85.cellAt 0 rfl rfl) ?_
 refine zR 1 ?_
 refine zL ⟨b82, 2, none⟩ (.int .i64 gi) (hs85.cellAt 0 rfl rfl) ?_
 refine zI (16 * gi) (wrap_i64 (by omega) (by omega)) ?_
 refine zI ((((264 + (208 * gw)) + 8) + 8) + (16 * gi)) (wrap_i64 (by omega) (by omega)) ?_
 refine zE 1 (hK88 _ _ ?_)
 refine W.exit (exit_seq (exit_here ?_))
 refine hK78 _ _ ?_
 refine W.region ?_
 refine zE 2 ?_
 refine loopAt_next ?_
 refine loopAt_round ?_
 refine W.sr fun K89 hK89 => ?_
 refine zE 1 (hK89 _ _ ?_)
 refine W.seq fun K90 hK90 => ?_
 refine W.cond_true true (by kernel_rfl) rfl ?_
 refine W.skip ?_
 refine hK90 _ _ ?_
 refine W.seq fun K91 hK91 => ?_
 refine W.block ?_
 refine W.sr fun K92 hK92 => ?_
 refine zR 1 ?_
 refine zN [(.int .u8 0), (.int .i64 0), (.int .i64 0)] 105 hs85 fun b95 w93 hs94 => ?_
 refine ops_store (off := 0) (cs := [(.int .u8 0), (.int .i64 0), (.int .i64 0)]) (vs := [(.int .u8 9), (.int .i64 8), (.int .i64 gb)]) hs94 (by kernel_rfl) (by simp) rfl (fun w96 hs97 => ?_)
 have hs98 : St B w [] w96 [blk b95 (.cells [(.int .u8 9), (.int .i64 8), (.int .i64 gb)].toArray 105 (0, 0)), blk b82 (.cells [(.int .u8 8), (.int .i64 16), (.int .i64 gi)].toArray 105 (0, 0)), blk b69 (.cells [(.int .u8 7), (.int .i64 8), (.int .i64 1)].toArray 105 (0, 0)), blk b56 (.cells [(.int .u8 6), (.int .i64 8), (.int .i64 1)].toArray 105 (0, 0)), blk b43 (.cells [(.int .u8 5), (.int .i64 208), (.int .i64 gw)].toArray 105 (0, 0)), blk b30 (.cells [(.int .u8 2), (.int .i64 64), (.int .i64 4)].toArray 105 (0, 0)), blk b17 (.cells [(.int .u8 1), (.int .i64 8), (.int .i64 1)].toArray 105 (0, 0)), blk b4 (.cells [(.int .i64 gw), (.int .i64 gi), (.int .i64 gb)].toArray 23 (0, 0))] := hs97
 refine zD (hK92 _ _ ?_)
 refine W.seq fun K99 hK99 => ?_
 refine W.sr fun K100 hK100 => ?_
 refine zR 1 ?_
 refine zL ⟨b95, 0, none⟩ (.int .u8 9) (hs98.cellAt 0 rfl rfl) ?_
 refine zE 2 (hK100 _ _ ?_)
 refine W.cond_false false (by kernel_rfl) rfl ?_
 refine W.skip ?_
 refine hK99 _ _ ?_
 refine W.seq fun K101 hK101 => ?_
 refine W.sr fun K102 hK102 => ?_
 refine ops_R (runs_loadAgg (ad := ⟨b4, 0, none⟩) (cs := [(.int .i64 gw), (.int .i64 gi), (.int .i64 gb)]) (by kernel_rfl) (cells_sub (hs98.heapAt 7 rfl) rfl)) ?_
 refine zC00 hs98 (may_spec (gw := gw) (gi := gi) (gb := gb) B _) fun w103 hs105 => ?_
 refine zR 1 ?_
 rcases Bool.eq_false_or_eq_true (decide (May gw gi gb)) with h106 | h106
 ·
  have h106p := of_decide_eq_true h106
  refine zS 28 h106 ?_
  refine zS 27 h106 ?_
  refine zR 2 ?_
  refine zL ⟨b95, 2, none⟩ (.int .i64 gb) (hs105.cellAt 0 rfl rfl) ?_
  refine zI (gb - 1) (wrap_i64 (by omega) (by omega)) ?_
  refine zC00 hs105 (within_spec (n_ := n_) (f_ := 0) (t_ := (gb - 1)) B _) fun w107 hs109 => ?_
  refine zE 1 (hK102 _ _ ?_)
  refine W.cond (decide (0 ≤ n_ ∧ n_ ≤ (gb - 1))) (by kernel_rfl) (fun h110 => ?_) (fun h110 => ?_)
  ·
   have h110p := of_decide_eq_true h110
   refine W.sr fun K111 hK111 => ?_
   refine zR 2 ?_
   refine zL ⟨b95, 1, none⟩ (.int .i64 8) (hs109.cellAt 0 rfl rfl) ?_
   refine zR 1 ?_
   refine zI (8 * n_) (wrap_i64 (by omega) (by omega)) ?_
   refine zI (((((264 + (208 * gw)) + 8) + 8) + (16 * gi)) + (8 * n_)) (wrap_i64 (by omega) (by omega)) ?_
   refine zE 1 (hK111 _ _ ?_)
   refine W.ret (ret_seq (ret_block (ret_seq (ret_seq (ret_block (ret_seq ?_))))))
   have hs112 := St.tk0 hs109
   refine ret_of (.int .i64 (((((264 + (208 * gw)) + 8) + 8) + (16 * gi)) + (8 * n_))) (by kernel_rfl) ⟨_, ⟨congrArg (Value.int .i64) (by first | contradiction | (simp only [placeOf, if_pos hm]; split <;> omega) | (simp only [placeOf, if_neg hm]; done) | (simp only [placeOf, if_pos hm]; omega)), rfl⟩, hs112⟩
  ·
   have h110p := of_decide_eq_false h110
   refine W.skip ?_
   refine hK101 _ _ ?_
   refine W.exit (exit_block (by decide) (exit_seq (exit_seq (exit_here ?_))))
   refine hK6 _ _ ?_
   refine W.sr fun K113 hK113 => ?_
   refine zE 1 (hK113 _ _ ?_)
   refine W.ret ?_
   have hs114 := St.tk0 hs109
   refine ret_of (.int .i64 (-1)) (by kernel_rfl) ⟨_, ⟨congrArg (Value.int .i64) (by first | contradiction | (simp only [placeOf, if_pos hm]; split <;> omega) | (simp only [placeOf, if_neg hm]; done) | (simp only [placeOf, if_pos hm]; omega)), rfl⟩, hs114⟩
 ·
  have h106p := of_decide_eq_false h106
  refine zS 28 h106 ?_
  refine zS 27 h106 ?_
  refine zE 6 (hK102 _ _ ?_)
  refine W.cond_false false (by kernel_rfl) rfl ?_
  refine W.skip ?_
  refine hK101 _ _ ?_
  refine W.exit (exit_block (by decide) (exit_seq (exit_seq (exit_here ?_))))
  refine hK6 _ _ ?_
  refine W.sr fun K115 hK115 => ?_
  refine zE 1 (hK115 _ _ ?_)
  refine W.ret ?_
  have hs116 := St.tk0 hs105
  refine ret_of (.int .i64 (-1)) (by kernel_rfl) ⟨_, ⟨congrArg (Value.int .i64) (by first | contradiction | (simp only [placeOf, if_pos hm]; split <;> omega) | (simp only [placeOf, if_neg hm]; done) | (simp only [placeOf, if_pos hm]; omega)), rfl⟩, hs116⟩

theorem place9_not {gw gi gb n_ : Int} (B : Nat) (w : World) (hm : ¬ May gw gi gb) : Spec Tryd.prog 53 #[(.agg #[(.int .i64 gw), (.int .i64 gi), (.int .i64 gb)]), (.int .u8 9), (.int .i64 n_)] B w [] (fun v H' => v = .int .i64 (placeOf 9 gw gi gb n_) ∧ H' = []) := by
 refine spec_Q Tryd.func53 rfl fun hs => ?_
 refine W.sr fun K1 hK1 => ?_
 refine zN [(.int .i64 gw), (.int .i64 gi), (.int .i64 gb)] 23 hs fun b4 w2 hs3 => ?_
 refine zE 1 (hK1 _ _ ?_)
 refine W.sr fun K5 hK5 => ?_
 refine zE 1 (hK5 _ _ ?_)
 refine W.seq fun K6 hK6 => ?_
 refine W.sr fun K7 hK7 => ?_
 refine ops_R (runs_loadAgg (ad := ⟨b4, 0, none⟩) (cs := [(.int .i64 gw), (.int .i64 gi), (.int .i64 gb)]) (by kernel_rfl) (cells_sub (hs3.heapAt 0 rfl) rfl)) ?_
 refine zC00 hs3 (rows_spec (gw := gw) (gi := gi) (gb := gb) B _) fun w8 hs10 => ?_
 refine zE 1 (hK7 _ _ ?_)
 refine W.block ?_
 refine W.loop_start ?_
 refine loopAt_round ?_
 refine W.sr fun K11 hK11 => ?_
 refine zE 1 (hK11 _ _ ?_)
 refine W.seq fun K12 hK12 => ?_
 refine W.cond_true true (by kernel_rfl) rfl ?_
 refine W.skip ?_
 refine hK12 _ _ ?_
 refine W.seq fun K13 hK13 => ?_
 refine W.block ?_
 refine W.sr fun K14 hK14 => ?_
 refine zR 1 ?_
 refine zN [(.int .u8 0), (.int .i64 0), (.int .i64 0)] 105 hs10 fun b17 w15 hs16 => ?_
 refine ops_store (off := 0) (cs := [(.int .u8 0), (.int .i64 0), (.int .i64 0)]) (vs := [(.int .u8 1), (.int .i64 8), (.int .i64 1)]) hs16 (by kernel_rfl) (by simp) rfl (fun w18 hs19 => ?_)
 have hs20 : St B w [] w18 [blk b17 (.cells [(.int .u8 1), (.int .i64 8), (.int .i64 1)].toArray 105 (0, 0)), blk b4 (.cells [(.int .i64 gw), (.int .i64 gi), (.int .i64 gb)].toArray 23 (0, 0))] := hs19
 refine zD (hK14 _ _ ?_)
 refine W.seq fun K21 hK21 => ?_
 refine W.sr fun K22 hK22 => ?_
 refine zR 1 ?_
 refine zL ⟨b17, 0, none⟩ (.int .u8 1) (hs20.cellAt 0 rfl rfl) ?_
 refine zE 2 (hK22 _ _ ?_)
 refine W.cond_true true (by kernel_rfl) rfl ?_
 refine W.sr fun K23 hK23 => ?_
 refine zR 2 ?_
 refine zL ⟨b17, 1, none⟩ (.int .i64 8) (hs20.cellAt 0 rfl rfl) ?_
 refine zR 1 ?_
 refine zL ⟨b17, 2, none⟩ (.int .i64 1) (hs20.cellAt 0 rfl rfl) ?_
 refine zE 3 (hK23 _ _ ?_)
 refine W.exit (exit_seq (exit_here ?_))
 refine hK13 _ _ ?_
 refine W.region ?_
 refine zE 2 ?_
 refine loopAt_next ?_
 refine loopAt_round ?_
 refine W.sr fun K24 hK24 => ?_
 refine zE 1 (hK24 _ _ ?_)
 refine W.seq fun K25 hK25 => ?_
 refine W.cond_true true (by kernel_rfl) rfl ?_
 refine W.skip ?_
 refine hK25 _ _ ?_
 refine W.seq fun K26 hK26 => ?_
 refine W.block ?_
 refine W.sr fun K27 hK27 => ?_
 refine zR 1 ?_
 refine zN [(.int .u8 0), (.int .i64 0), (.int .i64 0)] 105 hs20 fun b30 w28 hs29 => ?_
 refine ops_store (off := 0) (cs := [(.int .u8 0), (.int .i64 0), (.int .i64 0)]) (vs := [(.int .u8 2), (.int .i64 64), (.int .i64 4)]) hs29 (by kernel_rfl) (by simp) rfl (fun w31 hs32 => ?_)
 have hs33 : St B w [] w31 [blk b30 (.cells [(.int .u8 2), (.int .i64 64), (.int .i64 4)].toArray 105 (0, 0)), blk b17 (.cells [(.int .u8 1), (.int .i64 8), (.int .i64 1)].toArray 105 (0, 0)), blk b4 (.cells [(.int .i64 gw), (.int .i64 gi), (.int .i64 gb)].toArray 23 (0, 0))] := hs32
 refine zD (hK27 _ _ ?_)
 refine W.seq fun K34 hK34 => ?_
 refine W.sr fun K35 hK35 => ?_
 refine zR 1 ?_
 refine zL ⟨b30, 0, none⟩ (.int .u8 2) (hs33.cellAt 0 rfl rfl) ?_
 refine zE 2 (hK35 _ _ ?_)
 refine W.cond_true true (by kernel_rfl) rfl ?_
 refine W.sr fun K36 hK36 => ?_
 refine zR 2 ?_
 refine zL ⟨b30, 1, none⟩ (.int .i64 64) (hs33.cellAt 0 rfl rfl) ?_
 refine zR 1 ?_
 refine zL ⟨b30, 2, none⟩ (.int .i64 4) (hs33.cellAt 0 rfl rfl) ?_
 refine zE 3 (hK36 _ _ ?_)
 refine W.exit (exit_seq (exit_here ?_))
 refine hK26 _ _ ?_
 refine W.region ?_
 refine zE 2 ?_
 refine loopAt_next ?_
 refine loopAt_round ?_
 refine W.sr fun K37 hK37 => ?_
 refine zE 1 (hK37 _ _ ?_)
 refine W.seq fun K38 hK38 => ?_
 refine W.cond_true true (by kernel_rfl) rfl ?_
 refine W.skip ?_
 refine hK38 _ _ ?_
 refine W.seq fun K39 hK39 => ?_
 refine W.block ?_
 refine W.sr fun K40 hK40 => ?_
 refine zR 1 ?_
 refine zN [(.int .u8 0), (.int .i64 0), (.int .i64 0)] 105 hs33 fun b43 w41 hs42 => ?_
 refine ops_store (off := 0) (cs := [(.int .u8 0), (.int .i64 0), (.int .i64 0)]) (vs := [(.int .u8 5), (.int .i64 208), (.int .i64 gw)]) hs42 (by kernel_rfl) (by simp) rfl (fun w44 hs45 => ?_)
 have hs46 : St B w [] w44 [blk b43 (.cells [(.int .u8 5), (.int .i64 208), (.int .i64 gw)].toArray 105 (0, 0)), blk b30 (.cells [(.int .u8 2), (.int .i64 64), (.int .i64 4)].toArray 105 (0, 0)), blk b17 (.cells [(.int .u8 1), (.int .i64 8), (.int .i64 1)].toArray 105 (0, 0)), blk b4 (.cells [(.int .i64 gw), (.int .i64 gi), (.int .i64 gb)].toArray 23 (0, 0))] := hs45
 refine zD (hK40 _ _ ?_)
 refine W.seq fun K47 hK47 => ?_
 refine W.sr fun K48 hK48 => ?_
 refine zR 1 ?_
 refine zL ⟨b43, 0, none⟩ (.int .u8 5) (hs46.cellAt 0 rfl rfl) ?_
 refine zE 2 (hK48 _ _ ?_)
 refine W.cond_true true (by kernel_rfl) rfl ?_
 refine W.sr fun K49 hK49 => ?_
 refine zR 2 ?_
 refine zL ⟨b43, 1, none⟩ (.int .i64 208) (hs46.cellAt 0 rfl rfl) ?_
 refine zR 1 ?_
 refine zL ⟨b43, 2, none⟩ (.int .i64 gw) (hs46.cellAt 0 rfl rfl) ?_
 refine ops_val (v := .int .i64 (IntKind.i64.wrap (208 * gw))) (v' := .int .i64 (IntKind.i64.wrap (208 * gw))) (by kernel_rfl) rfl ?_
 refine ops_val (v := .int .i64 (IntKind.i64.wrap (264 + (IntKind.i64.wrap (208 * gw))))) (v' := .int .i64 (IntKind.i64.wrap (264 + (IntKind.i64.wrap (208 * gw))))) (by kernel_rfl) rfl ?_
 refine zE 1 (hK49 _ _ ?_)
 refine W.exit (exit_seq (exit_here ?_))
 refine hK39 _ _ ?_
 refine W.region ?_
 refine zE 2 ?_
 refine loopAt_next ?_
 refine loopAt_round ?_
 refine W.sr fun K50 hK50 => ?_
 refine zE 1 (hK50 _ _ ?_)
 refine W.seq fun K51 hK51 => ?_
 refine W.cond_true true (by kernel_rfl) rfl ?_
 refine W.skip ?_
 refine hK51 _ _ ?_
 refine W.seq fun K52 hK52 => ?_
 refine W.block ?_
 refine W.sr fun K53 hK53 => ?_
 refine zR 1 ?_
 refine zN [(.int .u8 0), (.int .i64 0), (.int .i64 0)] 105 hs46 fun b56 w54 hs55 => ?_
 refine ops_store (off := 0) (cs := [(.int .u8 0), (.int .i64 0), (.int .i64 0)]) (vs := [(.int .u8 6), (.int .i64 8), (.int .i64 1)]) hs55 (by kernel_rfl) (by simp) rfl (fun w57 hs58 => ?_)
 have hs59 : St B w [] w57 [blk b56 (.cells [(.int .u8 6), (.int .i64 8), (.int .i64 1)].toArray 105 (0, 0)), blk b43 (.cells [(.int .u8 5), (.int .i64 208), (.int .i64 gw)].toArray 105 (0, 0)), blk b30 (.cells [(.int .u8 2), (.int .i64 64), (.int .i64 4)].toArray 105 (0, 0)), blk b17 (.cells [(.int .u8 1), (.int .i64 8), (.int .i64 1)].toArray 105 (0, 0)), blk b4 (.cells [(.int .i64 gw), (.int .i64 gi), (.int .i64 gb)].toArray 23 (0, 0))] := hs58
 refine zD (hK53 _ _ ?_)
 refine W.seq fun K60 hK60 => ?_
 refine W.sr fun K61 hK61 => ?_
 refine zR 1 ?_
 refine zL ⟨b56, 0, none⟩ (.int .u8 6) (hs59.cellAt 0 rfl rfl) ?_
 refine zE 2 (hK61 _ _ ?_)
 refine W.cond_true true (by kernel_rfl) rfl ?_
 refine W.sr fun K62 hK62 => ?_
 refine zR 2 ?_
 refine zL ⟨b56, 1, none⟩ (.int .i64 8) (hs59.cellAt 0 rfl rfl) ?_
 refine zR 1 ?_
 refine zL ⟨b56, 2, none⟩ (.int .i64 1) (hs59.cellAt 0 rfl rfl) ?_
 refine zR 1 ?_
 refine ops_val (v := .int .i64 (IntKind.i64.wrap ((IntKind.i64.wrap (264 + (IntKind.i64.wrap (208 * gw)))) + 8))) (v' := .int .i64 (IntKind.i64.wrap ((IntKind.i64.wrap (264 + (IntKind.i64.wrap (208 * gw)))) + 8))) (by kernel_rfl) rfl ?_
 refine zE 1 (hK62 _ _ ?_)
 refine W.exit (exit_seq (exit_here ?_))
 refine hK52 _ _ ?_
 refine W.region ?_
 refine zE 2 ?_
 refine loopAt_next ?_
 refine loopAt_round ?_
 refine W.sr fun K63 hK63 => ?_
 refine zE 1 (hK63 _ _ ?_)
 refine W.seq fun K64 hK64 => ?_
 refine W.cond_true true (by kernel_rfl) rfl ?_
 refine W.skip ?_
 refine hK64 _ _ ?_
 refine W.seq fun K65 hK65 => ?_
 refine W.block ?_
 refine W.sr fun K66 hK66 => ?_
 refine zR 1 ?_
 refine zN [(.int .u8 0), (.int .i64 0), (.int .i64 0)] 105 hs59 fun b69 w67 hs68 => ?_
 refine ops_store (off := 0) (cs := [(.int .u8 0), (.int .i64 0), (.int .i64 0)]) (vs := [(.int .u8 7), (.int .i64 8), (.int .i64 1)]) hs68 (by kernel_rfl) (by simp) rfl (fun w70 hs71 => ?_)
 have hs72 : St B w [] w70 [blk b69 (.cells [(.int .u8 7), (.int .i64 8), (.int .i64 1)].toArray 105 (0, 0)), blk b56 (.cells [(.int .u8 6), (.int .i64 8), (.int .i64 1)].toArray 105 (0, 0)), blk b43 (.cells [(.int .u8 5), (.int .i64 208), (.int .i64 gw)].toArray 105 (0, 0)), blk b30 (.cells [(.int .u8 2), (.int .i64 64), (.int .i64 4)].toArray 105 (0, 0)), blk b17 (.cells [(.int .u8 1), (.int .i64 8), (.int .i64 1)].toArray 105 (0, 0)), blk b4 (.cells [(.int .i64 gw), (.int .i64 gi), (.int .i64 gb)].toArray 23 (0, 0))] := hs71
 refine zD (hK66 _ _ ?_)
 refine W.seq fun K73 hK73 => ?_
 refine W.sr fun K74 hK74 => ?_
 refine zR 1 ?_
 refine zL ⟨b69, 0, none⟩ (.int .u8 7) (hs72.cellAt 0 rfl rfl) ?_
 refine zE 2 (hK74 _ _ ?_)
 refine W.cond_true true (by kernel_rfl) rfl ?_
 refine W.sr fun K75 hK75 => ?_
 refine zR 2 ?_
 refine zL ⟨b69, 1, none⟩ (.int .i64 8) (hs72.cellAt 0 rfl rfl) ?_
 refine zR 1 ?_
 refine zL ⟨b69, 2, none⟩ (.int .i64 1) (hs72.cellAt 0 rfl rfl) ?_
 refine zR 1 ?_
 refine ops_val (v := .int .i64 (IntKind.i64.wrap ((IntKind.i64.wrap ((IntKind.i64.wrap (264 + (IntKind.i64.wrap (208 * gw)))) + 8)) + 8))) (v' := .int .i64 (IntKind.i64.wrap ((IntKind.i64.wrap ((IntKind.i64.wrap (264 + (IntKind.i64.wrap (208 * gw)))) + 8)) + 8))) (by kernel_rfl) rfl ?_
 refine zE 1 (hK75 _ _ ?_)
 refine W.exit (exit_seq (exit_here ?_))
 refine hK65 _ _ ?_
 refine W.region ?_
 refine zE 2 ?_
 refine loopAt_next ?_
 refine loopAt_round ?_
 refine W.sr fun K76 hK76 => ?_
 refine zE 1 (hK76 _ _ ?_)
 refine W.seq fun K77 hK77 => ?_
 refine W.cond_true true (by kernel_rfl) rfl ?_
 refine W.skip ?_
 refine hK77 _ _ ?_
 refine W.seq fun K78 hK78 => ?_
 refine W.block ?_
 refine W.sr fun K79 hK79 => ?_
 refine zR 1 ?_
 refine zN [(.int .u8 0), (.int .i64 0), (.int .i64 0)] 105 hs72 fun b82 w80 hs81 => ?_
 refine ops_store (off := 0) (cs := [(.int .u8 0), (.int .i64 0), (.int .i64 0)]) (vs := [(.int .u8 8), (.int .i64 16), (.int .i64 gi)]) hs81 (by kernel_rfl) (by simp) rfl (fun w83 hs84 => ?_)
 have hs85 : St B w [] w83 [blk b82 (.cells [(.int .u8 8), (.int .i64 16), (.int .i64 gi)].toArray 105 (0, 0)), blk b69 (.cells [(.int .u8 7), (.int .i64 8), (.int .i64 1)].toArray 105 (0, 0)), blk b56 (.cells [(.int .u8 6), (.int .i64 8), (.int .i64 1)].toArray 105 (0, 0)), blk b43 (.cells [(.int .u8 5), (.int .i64 208), (.int .i64 gw)].toArray 105 (0, 0)), blk b30 (.cells [(.int .u8 2), (.int .i64 64), (.int .i64 4)].toArray 105 (0, 0)), blk b17 (.cells [(.int .u8 1), (.int .i64 8), (.int .i64 1)].toArray 105 (0, 0)), blk b4 (.cells [(.int .i64 gw), (.int .i64 gi), (.int .i64 gb)].toArray 23 (0, 0))] := hs84
 refine zD (hK79 _ _ ?_)
 refine W.seq fun K86 hK86 => ?_
 refine W.sr fun K87 hK87 => ?_
 refine zR 1 ?_
 refine zL ⟨b82, 0, none⟩ (.int .u8 8) (hs85.cellAt 0 rfl rfl) ?_
 refine zE 2 (hK87 _ _ ?_)
 refine W.cond_true true (by kernel_rfl) rfl ?_
 refine W.sr fun K88 hK88 => ?_
 refine zR 2 ?_
 refine zL ⟨b82, 1, none⟩ (.int .i64 16) (hs85.cellAt 0 rfl rfl) ?_
 refine zR 1 ?_
 refine zL ⟨b82, 2, none⟩ (.int .i64 gi) (hs85.cellAt 0 rfl rfl) ?_
 refine ops_val (v := .int .i64 (IntKind.i64.wrap (16 * gi))) (v' := .int .i64 (IntKind.i64.wrap (16 * gi))) (by kernel_rfl) rfl ?_
 refine ops_val (v := .int .i64 (IntKind.i64.wrap ((IntKind.i64.wrap ((IntKind.i64.wrap ((IntKind.i64.wrap (264 + (IntKind.i64.wrap (208 * gw)))) + 8)) + 8)) + (IntKind.i64.wrap (16 * gi))))) (v' := .int .i64 (IntKind.i64.wrap ((IntKind.i64.wrap ((IntKind.i64.wrap ((IntKind.i64.wrap (264 + (IntKind.i64.wrap (208 * gw)))) + 8)) + 8)) + (IntKind.i64.wrap (16 * gi))))) (by kernel_rfl) rfl ?_
 refine zE 1 (hK88 _ _ ?_)
 refine W.exit (exit_seq (exit_here ?_))
 refine hK78 _ _ ?_
 refine W.region ?_
 refine zE 2 ?_
 refine loopAt_next ?_
 refine loopAt_round ?_
 refine W.sr fun K89 hK89 => ?_
 refine zE 1 (hK89 _ _ ?_)
 refine W.seq fun K90 hK90 => ?_
 refine W.cond_true true (by kernel_rfl) rfl ?_
 refine W.skip ?_
 refine hK90 _ _ ?_
 refine W.seq fun K91 hK91 => ?_
 refine W.block ?_
 refine W.sr fun K92 hK92 => ?_
 refine zR 1 ?_
 refine zN [(.int .u8 0), (.int .i64 0), (.int .i64 0)] 105 hs85 fun b95 w93 hs94 => ?_
 refine ops_store (off := 0) (cs := [(.int .u8 0), (.int .i64 0), (.int .i64 0)]) (vs := [(.int .u8 9), (.int .i64 8), (.int .i64 gb)]) hs94 (by kernel_rfl) (by simp) rfl (fun w96 hs97 => ?_)
 have hs98 : St B w [] w96 [blk b95 (.cells [(.int .u8 9), (.int .i64 8), (.int .i64 gb)].toArray 105 (0, 0)), blk b82 (.cells [(.int .u8 8), (.int .i64 16), (.int .i64 gi)].toArray 105 (0, 0)), blk b69 (.cells [(.int .u8 7), (.int .i64 8), (.int .i64 1)].toArray 105 (0, 0)), blk b56 (.cells [(.int .u8 6), (.int .i64 8), (.int .i64 1)].toArray 105 (0, 0)), blk b43 (.cells [(.int .u8 5), (.int .i64 208), (.int .i64 gw)].toArray 105 (0, 0)), blk b30 (.cells [(.int .u8 2), (.int .i64 64), (.int .i64 4)].toArray 105 (0, 0)), blk b17 (.cells [(.int .u8 1), (.int .i64 8), (.int .i64 1)].toArray 105 (0, 0)), blk b4 (.cells [(.int .i64 gw), (.int .i64 gi), (.int .i64 gb)].toArray 23 (0, 0))] := hs97
 refine zD (hK92 _ _ ?_)
 refine W.seq fun K99 hK99 => ?_
 refine W.sr fun K100 hK100 => ?_
 refine zR 1 ?_
 refine zL ⟨b95, 0, none⟩ (.int .u8 9) (hs98.cellAt 0 rfl rfl) ?_
 refine zE 2 (hK100 _ _ ?_)
 refine W.cond_false false (by kernel_rfl) rfl ?_
 refine W.skip ?_
 refine hK99 _ _ ?_
 refine W.seq fun K101 hK101 => ?_
 refine W.sr fun K102 hK102 => ?_
 refine ops_R (runs_loadAgg (ad := ⟨b4, 0, none⟩) (cs := [(.int .i64 gw), (.int .i64 gi), (.int .i64 gb)]) (by kernel_rfl) (cells_sub (hs98.heapAt 7 rfl) rfl)) ?_
 refine zC00 hs98 (may_spec (gw := gw) (gi := gi) (gb := gb) B _) fun w103 hs105 => ?_
 refine zR 1 ?_
 rcases Bool.eq_false_or_eq_true (decide (May gw gi gb)) with h106 | h106
 ·
  have h106p := of_decide_eq_true h106
  refine zS 28 h106 ?_
  refine zS 27 h106 ?_
  refine zR 2 ?_
  refine zL ⟨b95, 2, none⟩ (.int .i64 gb) (hs105.cellAt 0 rfl rfl) ?_
  refine ops_val (v := .int .i64 (IntKind.i64.wrap (gb - 1))) (v' := .int .i64 (IntKind.i64.wrap (gb - 1))) (by kernel_rfl) rfl ?_
  refine zC00 hs105 (within_spec (n_ := n_) (f_ := 0) (t_ := (IntKind.i64.wrap (gb - 1))) B _) fun w107 hs109 => ?_
  refine zE 1 (hK102 _ _ ?_)
  refine W.cond (decide (0 ≤ n_ ∧ n_ ≤ (IntKind.i64.wrap (gb - 1)))) (by kernel_rfl) (fun h110 => ?_) (fun h110 => ?_)
  ·
   have h110p := of_decide_eq_true h110
   refine W.sr fun K111 hK111 => ?_
   refine zR 2 ?_
   refine zL ⟨b95, 1, none⟩ (.int .i64 8) (hs109.cellAt 0 rfl rfl) ?_
   refine zR 1 ?_
   refine ops_val (v := .int .i64 (IntKind.i64.wrap (8 * n_))) (v' := .int .i64 (IntKind.i64.wrap (8 * n_))) (by kernel_rfl) rfl ?_
   refine ops_val (v := .int .i64 (IntKind.i64.wrap ((IntKind.i64.wrap ((IntKind.i64.wrap ((IntKind.i64.wrap ((IntKind.i64.wrap (264 + (IntKind.i64.wrap (208 * gw)))) + 8)) + 8)) + (IntKind.i64.wrap (16 * gi)))) + (IntKind.i64.wrap (8 * n_))))) (v' := .int .i64 (IntKind.i64.wrap ((IntKind.i64.wrap ((IntKind.i64.wrap ((IntKind.i64.wrap ((IntKind.i64.wrap (264 + (IntKind.i64.wrap (208 * gw)))) + 8)) + 8)) + (IntKind.i64.wrap (16 * gi)))) + (IntKind.i64.wrap (8 * n_))))) (by kernel_rfl) rfl ?_
   refine zE 1 (hK111 _ _ ?_)
   refine W.ret (ret_seq (ret_block (ret_seq (ret_seq (ret_block (ret_seq ?_))))))
   have hs112 := St.tk0 hs109
   refine ret_of (.int .i64 (IntKind.i64.wrap ((IntKind.i64.wrap ((IntKind.i64.wrap ((IntKind.i64.wrap ((IntKind.i64.wrap (264 + (IntKind.i64.wrap (208 * gw)))) + 8)) + 8)) + (IntKind.i64.wrap (16 * gi)))) + (IntKind.i64.wrap (8 * n_))))) (by kernel_rfl) ⟨_, ⟨congrArg (Value.int .i64) (by first | contradiction | (simp only [placeOf, if_pos hm]; split <;> omega) | (simp only [placeOf, if_neg hm]; done) | (simp only [placeOf, if_pos hm]; omega)), rfl⟩, hs112⟩
  ·
   have h110p := of_decide_eq_false h110
   refine W.skip ?_
   refine hK101 _ _ ?_
   refine W.exit (exit_block (by decide) (exit_seq (exit_seq (exit_here ?_))))
   refine hK6 _ _ ?_
   refine W.sr fun K113 hK113 => ?_
   refine zE 1 (hK113 _ _ ?_)
   refine W.ret ?_
   have hs114 := St.tk0 hs109
   refine ret_of (.int .i64 (-1)) (by kernel_rfl) ⟨_, ⟨congrArg (Value.int .i64) (by first | contradiction | (simp only [placeOf, if_pos hm]; split <;> omega) | (simp only [placeOf, if_neg hm]; done) | (simp only [placeOf, if_pos hm]; omega)), rfl⟩, hs114⟩
 ·
  have h106p := of_decide_eq_false h106
  refine zS 28 h106 ?_
  refine zS 27 h106 ?_
  refine zE 6 (hK102 _ _ ?_)
  refine W.cond_false false (by kernel_rfl) rfl ?_
  refine W.skip ?_
  refine hK101 _ _ ?_
  refine W.exit (exit_block (by decide) (exit_seq (exit_seq (exit_here ?_))))
  refine hK6 _ _ ?_
  refine W.sr fun K115 hK115 => ?_
  refine zE 1 (hK115 _ _ ?_)
  refine W.ret ?_
  have hs116 := St.tk0 hs105
  refine ret_of (.int .i64 (-1)) (by kernel_rfl) ⟨_, ⟨congrArg (Value.int .i64) (by first | contradiction | (simp only [placeOf, if_pos hm]; split <;> omega) | (simp only [placeOf, if_neg hm]; done) | (simp only [placeOf, if_pos hm]; omega)), rfl⟩, hs116⟩

theorem place9_spec {gw gi gb n_ : Int} (B : Nat) (w : World) : Spec Tryd.prog 53 #[(.agg #[(.int .i64 gw), (.int .i64 gi), (.int .i64 gb)]), (.int .u8 9), (.int .i64 n_)] B w [] (fun v H' => v = .int .i64 (placeOf 9 gw gi gb n_) ∧ H' = []) := by
 by_cases hm : May gw gi gb
 · exact place9_may B w hm
 · exact place9_not B w hm

theorem inodeat_spec {gw gi gb n_ : Int} (B : Nat) (w : World) : Spec Tryd.prog 22 #[(.agg #[(.int .i64 gw), (.int .i64 gi), (.int .i64 gb)]), (.int .i64 n_)] B w [] (fun v H' => v = .int .i64 (placeOf 8 gw gi gb n_) ∧ H' = []) := by
 refine spec_Q Tryd.func22 rfl fun hs => ?_
 refine W.sr fun K1 hK1 => ?_
 refine zN [(.int .i64 gw), (.int .i64 gi), (.int .i64 gb)] 23 hs fun b4 w2 hs3 => ?_
 refine zE 1 (hK1 _ _ ?_)
 refine W.sr fun K5 hK5 => ?_
 refine ops_R (runs_loadAgg (ad := ⟨b4, 0, none⟩) (cs := [(.int .i64 gw), (.int .i64 gi), (.int .i64 gb)]) (by kernel_rfl) (cells_sub (hs3.heapAt 0 rfl) rfl)) ?_
 refine zR 1 ?_
 refine zC00 hs3 (place8_spec (gw := gw) (gi := gi) (gb := gb) (n_ := n_) B _) fun w6 hs8 => ?_
 refine zE 1 (hK5 _ _ ?_)
 refine W.ret ?_
 have hs9 := St.tk0 hs8
 refine ret_of (.int .i64 (placeOf 8 gw gi gb n_)) (by kernel_rfl) ⟨_, ⟨rfl, rfl⟩, hs9⟩

theorem areas_spec  (B : Nat) (w : World) : Spec Tryd.prog 94 #[] B w [] (fun v H' => v = .int .i64 264 ∧ H' = []) := by
 refine spec_Q Tryd.func94 rfl fun hs => ?_
 refine W.sr fun K1 hK1 => ?_
 refine zE 1 (hK1 _ _ ?_)
 refine W.sr fun K2 hK2 => ?_
 refine zE 1 (hK2 _ _ ?_)
 refine W.ret ?_
 refine ret_of (.int .i64 264) (by kernel_rfl) ⟨_, ⟨rfl, rfl⟩, hs⟩

theorem maps_spec {gw gi gb : Int} (B : Nat) (w : World) (hm : May gw gi gb) : Spec Tryd.prog 80 #[(.agg #[(.int .i64 gw), (.int .i64 gi), (.int .i64 gb)])] B w [] (fun v H' => v = .int .i64 (264 + 208 * gw) ∧ H' = []) := by
 refine spec_Q Tryd.func80 rfl fun hs => ?_
 have hm_ : (1 ≤ gw ∧ gw ≤ 4) ∧ (2 ≤ gi ∧ gi ≤ 64) ∧ (2 ≤ gb ∧ gb ≤ 512) := hm
 refine W.sr fun K1 hK1 => ?_
 refine zN [(.int .i64 gw), (.int .i64 gi), (.int .i64 gb)] 34 hs fun b4 w2 hs3 => ?_
 refine zE 1 (hK1 _ _ ?_)
 refine W.seq fun K5 hK5 => ?_
 have hs6 := hs3.drew
 refine W.regionD [(0, 0), (0, 0), (2, 2), (4, 4), (9, 9), (31, 16)] (fun w_ => St B w [] w_ [blk b4 (.cells [(.int .i64 gw), (.int .i64 gi), (.int .i64 gb)].toArray 34 (0, 0))]) (by kernel_rfl) hs6 ?_
 refine any_val (v := (.pointer (some ⟨b4, 0, none⟩))) (v' := (.pointer (some ⟨b4, 0, none⟩))) 1 (by kernel_rfl) (fun _ => by kernel_rfl) rfl hs6 ?_
 refine any_R 2 (by kernel_rfl) (fun _ hS_ => runs_load (ad := ⟨b4, 0, none⟩) (v := (.int .i64 gw)) (by kernel_rfl) (hS_.cellAt 0 rfl rfl)) hs6 ?_
 refine any_val (v := .int .i64 (IntKind.i64.wrap (208 * gw))) (v' := .int .i64 (208 * gw)) 3 (by kernel_rfl) (fun _ => by kernel_rfl) (congrArg (Value.int .i64) (wrap_i64 (by omega) (by omega))) hs6 ?_
 refine any_step 0 (by kernel_rfl) (by kernel_rfl) ?_
 refine zC00 hs6 (areas_spec B _) fun w7 hs9 => ?_
 refine ops_done (by kernel_rfl) ⟨hs9, ?_⟩
 refine any_val (v := .int .i64 (IntKind.i64.wrap (264 + (208 * gw)))) (v' := .int .i64 (264 + (208 * gw))) 4 (by kernel_rfl) (fun _ => by kernel_rfl) (congrArg (Value.int .i64) (wrap_i64 (by omega) (by omega))) hs9 ?_
 refine any_val (v := (.int .i64 (264 + (208 * gw)))) (v' := (.int .i64 (264 + (208 * gw)))) 5 (by kernel_rfl) (fun _ => by kernel_rfl) rfl hs9 ?_
 refine any_done (by kernel_rfl) ?_
 refine hK5 _ _ ?_
 refine W.ret ?_
 have hs10 := St.tk0 hs9
 refine ret_of (.int .i64 (264 + (208 * gw))) (by kernel_rfl) ⟨_, ⟨rfl, rfl⟩, hs10⟩

theorem rwords_spec {gw gi gb : Int} (B : Nat) (w : World) : Spec Tryd.prog 45 #[(.agg #[(.int .i64 gw), (.int .i64 gi), (.int .i64 gb)])] B w [] (fun v H' => v = .int .i64 (wordsOf gw gi gb) ∧ H' = []) := by
 refine spec_Q Tryd.func45 rfl fun hs => ?_
 refine W.sr fun K1 hK1 => ?_
 refine zN [(.int .i64 gw), (.int .i64 gi), (.int .i64 gb)] 34 hs fun b4 w2 hs3 => ?_
 refine zE 1 (hK1 _ _ ?_)
 refine W.seq fun K5 hK5 => ?_
 refine W.sr fun K6 hK6 => ?_
 refine ops_R (runs_loadAgg (ad := ⟨b4, 0, none⟩) (cs := [(.int .i64 gw), (.int .i64 gi), (.int .i64 gb)]) (by kernel_rfl) (cells_sub (hs3.heapAt 0 rfl) rfl)) ?_
 refine zC00 hs3 (rmay_spec (gw := gw) (gi := gi) (gb := gb) B _) fun w7 hs9 => ?_
 refine zE 1 (hK6 _ _ ?_)
 refine W.cond (!(decide (May gw gi gb))) (by kernel_rfl) (fun h10 => ?_) (fun h10 => ?_)
 ·
  have h10p : ¬ (May gw gi gb) := of_decide_eq_false (bnot_true h10)
  have hm : ¬ May gw gi gb := h10p
  refine W.sr fun K11 hK11 => ?_
  refine zE 1 (hK11 _ _ ?_)
  refine W.ret (ret_seq ?_)
  have hs12 := St.tk0 hs9
  refine ret_of (.int .i64 0) (by kernel_rfl) ⟨_, ⟨congrArg (Value.int .i64) (by first | contradiction | (simp only [wordsOf, if_pos hm]; omega) | (simp only [wordsOf, if_neg hm]; done)), rfl⟩, hs12⟩
 ·
  have h10p : May gw gi gb := of_decide_eq_true (bnot_false h10)
  have hm : May gw gi gb := h10p
  have hm_ : (1 ≤ gw ∧ gw ≤ 4) ∧ (2 ≤ gi ∧ gi ≤ 64) ∧ (2 ≤ gb ∧ gb ≤ 512) := hm
  refine W.skip ?_
  refine hK5 _ _ ?_
  refine W.seq fun K13 hK13 => ?_
  have hs14 := hs9.drew
  refine W.regionD [(0, 0), (1, 1), (2, 2), (0, 0), (8, 8), (16, 16), (36, 36), (0, 0), (128, 128), (256, 256), (576, 576), (2047, 1024)] (fun w_ => St B w [] w_ [blk b4 (.cells [(.int .i64 gw), (.int .i64 gi), (.int .i64 gb)].toArray 34 (0, 0))]) (by kernel_rfl) hs14 ?_
  refine any_R 0 (by kernel_rfl) (fun _ hS_ => runs_loadAgg (ad := ⟨b4, 0, none⟩) (cs := [(.int .i64 gw), (.int .i64 gi), (.int .i64 gb)]) (by kernel_rfl) (cells_sub (hS_.heapAt 0 rfl) rfl)) hs14 ?_
  refine any_val (v := (.pointer (some ⟨b4, 1, none⟩))) (v' := (.pointer (some ⟨b4, 1, none⟩))) 3 (by kernel_rfl) (fun _ => by kernel_rfl) rfl hs14 ?_
  refine any_R 4 (by kernel_rfl) (fun _ hS_ => runs_load (ad := ⟨b4, 1, none⟩) (v := (.int .i64 gi)) (by kernel_rfl) (hS_.cellAt 0 rfl rfl)) hs14 ?_
  refine any_val (v := .int .i64 (IntKind.i64.wrap (16 * gi))) (v' := .int .i64 (16 * gi)) 5 (by kernel_rfl) (fun _ => by kernel_rfl) (congrArg (Value.int .i64) (wrap_i64 (by omega) (by omega))) hs14 ?_
  refine any_val (v := (.pointer (some ⟨b4, 2, none⟩))) (v' := (.pointer (some ⟨b4, 2, none⟩))) 7 (by kernel_rfl) (fun _ => by kernel_rfl) rfl hs14 ?_
  refine any_R 8 (by kernel_rfl) (fun _ hS_ => runs_load (ad := ⟨b4, 2, none⟩) (v := (.int .i64 gb)) (by kernel_rfl) (hS_.cellAt 0 rfl rfl)) hs14 ?_
  refine any_val (v := .int .i64 (IntKind.i64.wrap (8 * gb))) (v' := .int .i64 (8 * gb)) 9 (by kernel_rfl) (fun _ => by kernel_rfl) (congrArg (Value.int .i64) (wrap_i64 (by omega) (by omega))) hs14 ?_
  refine any_step 1 (by kernel_rfl) (by kernel_rfl) ?_
  refine zC00 hs14 (maps_spec (hm := hm) (gw := gw) (gi := gi) (gb := gb) B _) fun w15 hs17 => ?_
  refine ops_done (by kernel_rfl) ⟨hs17, ?_⟩
  refine any_val (v := .int .i64 (IntKind.i64.wrap ((264 + 208 * gw) + 16))) (v' := .int .i64 ((264 + 208 * gw) + 16)) 2 (by kernel_rfl) (fun _ => by kernel_rfl) (congrArg (Value.int .i64) (wrap_i64 (by omega) (by omega))) hs17 ?_
  refine any_val (v := .int .i64 (IntKind.i64.wrap (((264 + 208 * gw) + 16) + (16 * gi)))) (v' := .int .i64 (((264 + 208 * gw) + 16) + (16 * gi))) 6 (by kernel_rfl) (fun _ => by kernel_rfl) (congrArg (Value.int .i64) (wrap_i64 (by omega) (by omega))) hs17 ?_
  refine any_val (v := .int .i64 (IntKind.i64.wrap ((((264 + 208 * gw) + 16) + (16 * gi)) + (8 * gb)))) (v' := .int .i64 ((((264 + 208 * gw) + 16) + (16 * gi)) + (8 * gb))) 10 (by kernel_rfl) (fun _ => by kernel_rfl) (congrArg (Value.int .i64) (wrap_i64 (by omega) (by omega))) hs17 ?_
  refine any_val (v := (.int .i64 ((((264 + 208 * gw) + 16) + (16 * gi)) + (8 * gb)))) (v' := (.int .i64 ((((264 + 208 * gw) + 16) + (16 * gi)) + (8 * gb)))) 11 (by kernel_rfl) (fun _ => by kernel_rfl) rfl hs17 ?_
  refine any_done (by kernel_rfl) ?_
  refine hK13 _ _ ?_
  refine W.ret ?_
  have hs18 := St.tk0 hs17
  refine ret_of (.int .i64 ((((264 + 208 * gw) + 16) + (16 * gi)) + (8 * gb))) (by kernel_rfl) ⟨_, ⟨congrArg (Value.int .i64) (by first | contradiction | (simp only [wordsOf, if_pos hm]; omega) | (simp only [wordsOf, if_neg hm]; done)), rfl⟩, hs18⟩

theorem rmapat_spec {gw gi gb : Int} (B : Nat) (w : World) : Spec Tryd.prog 46 #[(.agg #[(.int .i64 gw), (.int .i64 gi), (.int .i64 gb)])] B w [] (fun v H' => v = .int .i64 (placeOf 6 gw gi gb 0) ∧ H' = []) := by
 refine spec_Q Tryd.func46 rfl fun hs => ?_
 refine W.sr fun K1 hK1 => ?_
 refine zN [(.int .i64 gw), (.int .i64 gi), (.int .i64 gb)] 34 hs fun b4 w2 hs3 => ?_
 refine zE 1 (hK1 _ _ ?_)
 refine W.seq fun K5 hK5 => ?_
 refine W.sr fun K6 hK6 => ?_
 refine ops_R (runs_loadAgg (ad := ⟨b4, 0, none⟩) (cs := [(.int .i64 gw), (.int .i64 gi), (.int .i64 gb)]) (by kernel_rfl) (cells_sub (hs3.heapAt 0 rfl) rfl)) ?_
 refine zC00 hs3 (rmay_spec (gw := gw) (gi := gi) (gb := gb) B _) fun w7 hs9 => ?_
 refine zE 1 (hK6 _ _ ?_)
 refine W.cond (!(decide (May gw gi gb))) (by kernel_rfl) (fun h10 => ?_) (fun h10 => ?_)
 ·
  have h10p : ¬ (May gw gi gb) := of_decide_eq_false (bnot_true h10)
  have hm : ¬ May gw gi gb := h10p
  refine W.sr fun K11 hK11 => ?_
  refine zE 1 (hK11 _ _ ?_)
  refine W.ret (ret_seq ?_)
  have hs12 := St.tk0 hs9
  refine ret_of (.int .i64 (-1)) (by kernel_rfl) ⟨_, ⟨congrArg (Value.int .i64) (by first | contradiction | (simp only [placeOf, if_pos hm]; split <;> omega) | (simp only [placeOf, if_neg hm]; done) | (simp only [placeOf, if_pos hm]; omega)), rfl⟩, hs12⟩
 ·
  have h10p : May gw gi gb := of_decide_eq_true (bnot_false h10)
  have hm : May gw gi gb := h10p
  have hm_ : (1 ≤ gw ∧ gw ≤ 4) ∧ (2 ≤ gi ∧ gi ≤ 64) ∧ (2 ≤ gb ∧ gb ≤ 512) := hm
  refine W.skip ?_
  refine hK5 _ _ ?_
  refine W.sr fun K13 hK13 => ?_
  refine ops_R (runs_loadAgg (ad := ⟨b4, 0, none⟩) (cs := [(.int .i64 gw), (.int .i64 gi), (.int .i64 gb)]) (by kernel_rfl) (cells_sub (hs9.heapAt 0 rfl) rfl)) ?_
  refine zC00 hs9 (maps_spec (hm := hm) (gw := gw) (gi := gi) (gb := gb) B _) fun w14 hs16 => ?_
  refine zE 1 (hK13 _ _ ?_)
  refine W.ret ?_
  have hs17 := St.tk0 hs16
  refine ret_of (.int .i64 (264 + 208 * gw)) (by kernel_rfl) ⟨_, ⟨congrArg (Value.int .i64) (by first | contradiction | (simp only [placeOf, if_pos hm]; split <;> omega) | (simp only [placeOf, if_neg hm]; done) | (simp only [placeOf, if_pos hm]; omega)), rfl⟩, hs17⟩

theorem rbmapat_spec {gw gi gb : Int} (B : Nat) (w : World) : Spec Tryd.prog 47 #[(.agg #[(.int .i64 gw), (.int .i64 gi), (.int .i64 gb)])] B w [] (fun v H' => v = .int .i64 (placeOf 7 gw gi gb 0) ∧ H' = []) := by
 refine spec_Q Tryd.func47 rfl fun hs => ?_
 refine W.sr fun K1 hK1 => ?_
 refine zN [(.int .i64 gw), (.int .i64 gi), (.int .i64 gb)] 34 hs fun b4 w2 hs3 => ?_
 refine zE 1 (hK1 _ _ ?_)
 refine W.seq fun K5 hK5 => ?_
 refine W.sr fun K6 hK6 => ?_
 refine ops_R (runs_loadAgg (ad := ⟨b4, 0, none⟩) (cs := [(.int .i64 gw), (.int .i64 gi), (.int .i64 gb)]) (by kernel_rfl) (cells_sub (hs3.heapAt 0 rfl) rfl)) ?_
 refine zC00 hs3 (rmay_spec (gw := gw) (gi := gi) (gb := gb) B _) fun w7 hs9 => ?_
 refine zE 1 (hK6 _ _ ?_)
 refine W.cond (!(decide (May gw gi gb))) (by kernel_rfl) (fun h10 => ?_) (fun h10 => ?_)
 ·
  have h10p : ¬ (May gw gi gb) := of_decide_eq_false (bnot_true h10)
  have hm : ¬ May gw gi gb := h10p
  refine W.sr fun K11 hK11 => ?_
  refine zE 1 (hK11 _ _ ?_)
  refine W.ret (ret_seq ?_)
  have hs12 := St.tk0 hs9
  refine ret_of (.int .i64 (-1)) (by kernel_rfl) ⟨_, ⟨congrArg (Value.int .i64) (by first | contradiction | (simp only [placeOf, if_pos hm]; split <;> omega) | (simp only [placeOf, if_neg hm]; done) | (simp only [placeOf, if_pos hm]; omega)), rfl⟩, hs12⟩
 ·
  have h10p : May gw gi gb := of_decide_eq_true (bnot_false h10)
  have hm : May gw gi gb := h10p
  have hm_ : (1 ≤ gw ∧ gw ≤ 4) ∧ (2 ≤ gi ∧ gi ≤ 64) ∧ (2 ≤ gb ∧ gb ≤ 512) := hm
  refine W.skip ?_
  refine hK5 _ _ ?_
  refine W.sr fun K13 hK13 => ?_
  refine ops_R (runs_loadAgg (ad := ⟨b4, 0, none⟩) (cs := [(.int .i64 gw), (.int .i64 gi), (.int .i64 gb)]) (by kernel_rfl) (cells_sub (hs9.heapAt 0 rfl) rfl)) ?_
  refine zC00 hs9 (maps_spec (hm := hm) (gw := gw) (gi := gi) (gb := gb) B _) fun w14 hs16 => ?_
  refine zI ((264 + 208 * gw) + 8) (wrap_i64 (by omega) (by omega)) ?_
  refine zE 1 (hK13 _ _ ?_)
  refine W.ret ?_
  have hs17 := St.tk0 hs16
  refine ret_of (.int .i64 ((264 + 208 * gw) + 8)) (by kernel_rfl) ⟨_, ⟨congrArg (Value.int .i64) (by first | contradiction | (simp only [placeOf, if_pos hm]; split <;> omega) | (simp only [placeOf, if_neg hm]; done) | (simp only [placeOf, if_pos hm]; omega)), rfl⟩, hs17⟩

theorem rinodeat_spec {gw gi gb n_ : Int} (B : Nat) (w : World) : Spec Tryd.prog 48 #[(.agg #[(.int .i64 gw), (.int .i64 gi), (.int .i64 gb)]), (.int .i64 n_)] B w [] (fun v H' => v = .int .i64 (placeOf 8 gw gi gb n_) ∧ H' = []) := by
 refine spec_Q Tryd.func48 rfl fun hs => ?_
 refine W.sr fun K1 hK1 => ?_
 refine zN [(.int .i64 gw), (.int .i64 gi), (.int .i64 gb)] 34 hs fun b4 w2 hs3 => ?_
 refine zE 1 (hK1 _ _ ?_)
 refine W.seq fun K5 hK5 => ?_
 refine W.sr fun K6 hK6 => ?_
 refine ops_R (runs_loadAgg (ad := ⟨b4, 0, none⟩) (cs := [(.int .i64 gw), (.int .i64 gi), (.int .i64 gb)]) (by kernel_rfl) (cells_sub (hs3.heapAt 0 rfl) rfl)) ?_
 refine zC00 hs3 (rmay_spec (gw := gw) (gi := gi) (gb := gb) B _) fun w7 hs9 => ?_
 refine zR 2 ?_
 rcases Bool.eq_false_or_eq_true (!(decide (May gw gi gb))) with h10 | h10
 ·
  have h10p : ¬ (May gw gi gb) := of_decide_eq_false (bnot_true h10)
  refine zS 8 h10 ?_
  refine zS 7 h10 ?_
  refine zE 9 (hK6 _ _ ?_)
  refine W.cond_true true (by kernel_rfl) rfl ?_
  refine W.sr fun K11 hK11 => ?_
  refine zE 1 (hK11 _ _ ?_)
  refine W.ret (ret_seq ?_)
  have hs12 := St.tk0 hs9
  refine ret_of (.int .i64 (-1)) (by kernel_rfl) ⟨_, ⟨congrArg (Value.int .i64) (by by_cases hm : May gw gi gb <;> first | contradiction | (have hm_ : (1 ≤ gw ∧ gw ≤ 4) ∧ (2 ≤ gi ∧ gi ≤ 64) ∧ (2 ≤ gb ∧ gb ≤ 512) := hm; simp only [placeOf, if_pos hm]; split <;> omega) | (simp only [placeOf, if_neg hm]; done)), rfl⟩, hs12⟩
 ·
  have h10p : May gw gi gb := of_decide_eq_true (bnot_false h10)
  have hm : May gw gi gb := h10p
  have hm_ : (1 ≤ gw ∧ gw ≤ 4) ∧ (2 ≤ gi ∧ gi ≤ 64) ∧ (2 ≤ gb ∧ gb ≤ 512) := hm
  refine zS 8 h10 ?_
  refine zS 7 h10 ?_
  refine zR 4 ?_
  rcases Bool.eq_false_or_eq_true (decide (n_ < 0)) with h13 | h13
  ·
   have h13p := of_decide_eq_true h13
   refine zS 12 h13 ?_
   refine zS 10 h13 ?_
   refine zS 11 h13 ?_
   refine zE 5 (hK6 _ _ ?_)
   refine W.cond_true true (by kernel_rfl) rfl ?_
   refine W.sr fun K14 hK14 => ?_
   refine zE 1 (hK14 _ _ ?_)
   refine W.ret (ret_seq ?_)
   have hs15 := St.tk0 hs9
   refine ret_of (.int .i64 (-1)) (by kernel_rfl) ⟨_, ⟨congrArg (Value.int .i64) (by by_cases hm : May gw gi gb <;> first | contradiction | (have hm_ : (1 ≤ gw ∧ gw ≤ 4) ∧ (2 ≤ gi ∧ gi ≤ 64) ∧ (2 ≤ gb ∧ gb ≤ 512) := hm; simp only [placeOf, if_pos hm]; split <;> omega) | (simp only [placeOf, if_neg hm]; done)), rfl⟩, hs15⟩
  ·
   have h13p := of_decide_eq_false h13
   refine zS 12 h13 ?_
   refine zS 10 h13 ?_
   refine zS 11 h13 ?_
   refine zR 2 ?_
   refine zL ⟨b4, 1, none⟩ (.int .i64 gi) (hs9.cellAt 0 rfl rfl) ?_
   refine zE 2 (hK6 _ _ ?_)
   refine W.cond (decide (n_ ≥ gi)) (by kernel_rfl) (fun h16 => ?_) (fun h16 => ?_)
   ·
    have h16p := of_decide_eq_true h16
    refine W.sr fun K17 hK17 => ?_
    refine zE 1 (hK17 _ _ ?_)
    refine W.ret (ret_seq ?_)
    have hs18 := St.tk0 hs9
    refine ret_of (.int .i64 (-1)) (by kernel_rfl) ⟨_, ⟨congrArg (Value.int .i64) (by by_cases hm : May gw gi gb <;> first | contradiction | (have hm_ : (1 ≤ gw ∧ gw ≤ 4) ∧ (2 ≤ gi ∧ gi ≤ 64) ∧ (2 ≤ gb ∧ gb ≤ 512) := hm; simp only [placeOf, if_pos hm]; split <;> omega) | (simp only [placeOf, if_neg hm]; done)), rfl⟩, hs18⟩
   ·
    have h16p := of_decide_eq_false h16
    refine W.skip ?_
    refine hK5 _ _ ?_
    refine W.sr fun K19 hK19 => ?_
    refine ops_R (runs_loadAgg (ad := ⟨b4, 0, none⟩) (cs := [(.int .i64 gw), (.int .i64 gi), (.int .i64 gb)]) (by kernel_rfl) (cells_sub (hs9.heapAt 0 rfl) rfl)) ?_
    refine zC00 hs9 (maps_spec (hm := hm) (gw := gw) (gi := gi) (gb := gb) B _) fun w20 hs22 => ?_
    refine zI ((264 + 208 * gw) + 16) (wrap_i64 (by omega) (by omega)) ?_
    refine zR 1 ?_
    refine zI (16 * n_) (wrap_i64 (by omega) (by omega)) ?_
    refine zI (((264 + 208 * gw) + 16) + (16 * n_)) (wrap_i64 (by omega) (by omega)) ?_
    refine zE 1 (hK19 _ _ ?_)
    refine W.ret ?_
    have hs23 := St.tk0 hs22
    refine ret_of (.int .i64 (((264 + 208 * gw) + 16) + (16 * n_))) (by kernel_rfl) ⟨_, ⟨congrArg (Value.int .i64) (by by_cases hm : May gw gi gb <;> first | contradiction | (have hm_ : (1 ≤ gw ∧ gw ≤ 4) ∧ (2 ≤ gi ∧ gi ≤ 64) ∧ (2 ≤ gb ∧ gb ≤ 512) := hm; simp only [placeOf, if_pos hm]; split <;> omega) | (simp only [placeOf, if_neg hm]; done)), rfl⟩, hs23⟩

end Go.Proofs.YtmmclabkkigiaaaDoor
