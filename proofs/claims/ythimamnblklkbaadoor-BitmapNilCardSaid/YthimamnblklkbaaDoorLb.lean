/- Maps of bits: their functions' answers, plainly. -/
import Derived.Test.YthimamnblklkbaaDoorF06a
namespace Go.Proofs.YthimamnblklkbaaDoor
open Go Go.RowKit

theorem mhas_ok (many i_ : Int) : mhas_M many i_ = some (decide (0 ≤ i_ ∧ i_ < many)) := by
  unfold mhas_M
  by_cases h : i_ ≥ 0
  · rw [if_pos h]
    congr 1
    exact decide_eq_decide.2 (by omega)
  · rw [if_neg h]
    congr 1
    exact (decide_eq_false (by omega)).symm
theorem shl_one {j : Int} (h : 0 ≤ j ∧ j < 64) : shlK .u64 1 j = 2 ^ j.toNat := by
  have e : min j.toNat IntKind.u64.bits = j.toNat := by
    have : IntKind.u64.bits = 64 := rfl
    omega
  unfold shlK
  rw [e, Int.one_mul]
  have h1 : (2 : Nat) ^ j.toNat < 2 ^ 64 := Nat.pow_lt_pow_right (by omega) (by omega)
  have h2 : ((2 ^ j.toNat : Nat) : Int) = 2 ^ j.toNat := by simp
  rw [← h2]
  exact wrap_u64 (Int.natCast_nonneg _) (Int.ofNat_lt.2 h1)
theorem mword_ok {at_ i_ : Int} (h : 0 ≤ i_ ∧ i_ ≤ 1000000000000 ∧ 0 ≤ at_ ∧ at_ ≤ 1000000000000) : mword_M at_ i_ = some (at_ + i_ / 64, 2 ^ (i_ % 64).toNat) := by
  unfold mword_M
  have e1 : i_.tdiv 64 = i_ / 64 := Int.tdiv_eq_ediv_of_nonneg h.1
  have e2 : i_.tmod 64 = i_ % 64 := Int.tmod_eq_emod_of_nonneg h.1
  rw [e1, e2]
  refine need_of (by omega) (need_of (by omega) (need_of (by omega) ?_))
  rw [shl_one (by omega)]

/-- the k-th word of a map: without what stands behind the last bit. -/
def mwordAt (img : List Int) (l : List (Int × Int)) (at_ many : Int) (k : Nat) : Int :=
  if many - 64 * (k : Int) < 64 then vget img l (at_ + (k : Int)) % 2 ^ (many - 64 * (k : Int)).toNat else vget img l (at_ + (k : Int))
def nWords (many : Int) : Nat := ((many + 63) / 64).toNat
theorem and_mask (v : Int) {j : Nat} (hj : j < 64) : bits .and .u64 v (2 ^ j - 1) = v % 2 ^ j := by
  have h1 : (2 : Nat) ^ j < 2 ^ 64 := Nat.pow_lt_pow_right (by omega) hj
  have h0 : 0 < (2 : Nat) ^ j := Nat.pow_pos (by omega)
  have e1 : (2 : Int) ^ j - 1 = ((2 ^ j - 1 : Nat) : Int) := by
    rw [Int.ofNat_sub (by omega)]
    simp
  have hb : (BitVec.ofInt 64 (2 ^ j - 1)).toNat = 2 ^ j - 1 := by
    rw [e1, BitVec.ofInt_natCast, BitVec.toNat_ofNat]
    exact Nat.mod_eq_of_lt (by omega)
  have ha : (BitVec.ofInt 64 v).toNat = (v % 18446744073709551616).toNat := by
    rw [BitVec.toNat_ofInt]
    rfl
  show IntKind.u64.wrap ((BitVec.ofInt 64 v &&& BitVec.ofInt 64 (2 ^ j - 1)).toNat : Int) = _
  rw [BitVec.toNat_and, hb, ha, Nat.and_two_pow_sub_one_eq_mod]
  have h2 : (v % 18446744073709551616).toNat % 2 ^ j < 2 ^ j := Nat.mod_lt _ h0
  rw [wrap_u64 (Int.natCast_nonneg _) (by have := Int.ofNat_lt.2 (Nat.lt_trans h2 h1); simpa using this)]
  have h3 : ((v % 18446744073709551616).toNat : Int) = v % 18446744073709551616 := Int.toNat_of_nonneg (Int.emod_nonneg _ (by omega))
  rw [Int.natCast_emod, h3]
  have h4 : ((2 ^ j : Nat) : Int) ∣ 18446744073709551616 := by
    have : (2 : Nat) ^ j ∣ 2 ^ 64 := Nat.pow_dvd_pow 2 (by omega)
    exact Int.ofNat_dvd.2 this
  rw [Int.emod_emod_of_dvd _ h4]
  simp
theorem mword_whole {img : List Int} {l : List (Int × Int)} {at_ many : Int} {k : Nat} (h : ¬ many - 64 * (k : Int) < 64) : vget img l (at_ + 64 * (k : Int) / 64) = mwordAt img l at_ many k := by
  unfold mwordAt
  rw [if_neg h]
  congr 2
  omega
theorem mword_part {img : List Int} {l : List (Int × Int)} {at_ many : Int} {k : Nat} (h : many - 64 * (k : Int) < 64) (h0 : 0 < many - 64 * (k : Int)) :
    bits .and .u64 (vget img l (at_ + 64 * (k : Int) / 64)) ((shlK .u64 1 (many - 64 * (k : Int)) - 1) % 18446744073709551616) = mwordAt img l at_ many k := by
  unfold mwordAt
  rw [if_pos h, shl_one (by omega)]
  have h1 : (2 : Nat) ^ (many - 64 * (k : Int)).toNat < 2 ^ 64 := Nat.pow_lt_pow_right (by omega) (by omega)
  have h2 : ((2 ^ (many - 64 * (k : Int)).toNat : Nat) : Int) = 2 ^ (many - 64 * (k : Int)).toNat := by simp
  have h3 := Int.ofNat_lt.2 h1
  rw [h2] at h3
  have h5 : (0 : Int) < 2 ^ (many - 64 * (k : Int)).toNat := by rw [← h2]; exact Int.ofNat_lt.2 (Nat.pow_pos (by omega))
  rw [Int.emod_eq_of_lt (by omega) (by simp at h3; omega), and_mask _ (by omega)]
  congr 2
  congr 1
  omega

section
variable {mb vb : Nat} {img : List Int} {l : List (Int × Int)} {at_ many i_ : Int}
theorem mhas_spec (B : Nat) (w : World) (hmb : w.heap[mb]? = some (.cells [ptr vb, .int .i64 at_, .int .i64 many].toArray 151 (0, 0))) (hv : ViewAt (ptr vb) img l w) :
    Spec Tryd.prog 93 #[ptr mb, .int .i64 i_] B w [] (fun v H' => v = .bool (decide (0 ≤ i_ ∧ i_ < many)) ∧ H' = []) := mhas_walk B w hmb hv (mhas_ok many i_)
theorem mword_spec (B : Nat) (w : World) (hq : 0 ≤ i_ ∧ i_ ≤ 1000000000000 ∧ 0 ≤ at_ ∧ at_ ≤ 1000000000000) (hmb : w.heap[mb]? = some (.cells [ptr vb, .int .i64 at_, .int .i64 many].toArray 151 (0, 0))) (hv : ViewAt (ptr vb) img l w) :
    Spec Tryd.prog 94 #[ptr mb, .int .i64 i_] B w [] (fun v H' => v = .tuple #[.int .i64 (at_ + i_ / 64), .int .u64 (2 ^ (i_ % 64).toNat)] ∧ H' = []) := mword_walk B w hmb hv (mword_ok hq)
end
end Go.Proofs.YthimamnblklkbaaDoor
