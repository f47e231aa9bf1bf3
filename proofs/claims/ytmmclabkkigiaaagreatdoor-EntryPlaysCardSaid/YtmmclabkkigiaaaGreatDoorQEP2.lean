/- Texts, one behind the other: A6a, Lb, Pop, Lv, Pu, F06b, F06c, A6o, A6c, F06t, A6d, A6b, Pb, Ut, Us, Uy, Uz, A5a, A5b, F5v, A5c, A5d, F6a. -/
import Derived.Laws.RangeString
import Derived.Lib.IndexAny
import Derived.Shelf.Lay
import Derived.Shelf.Strings.IndexAnyAll
import Derived.Shelf.Small.Utf8
import Derived.Laws.Runes
import Derived.WalkMore
import Derived.RegionTactic
import Derived.Deep.DeepBigQuietO
import Derived.Deep.QuietTactic
import Derived.Test.YtmmclabkkigiaaaGreatDoorProg
import Derived.Test.YtmmclabkkigiaaaGreatDoorQEP1
set_option linter.unusedVariables false
set_option linter.unusedSimpArgs false
set_option maxRecDepth 20000
namespace Go.Proofs.YtmmclabkkigiaaaGreatDoor
open Go Go.RowKit
def mhas_M (many : Int) (i_ : Int) : Option (Bool) :=
 if i_ ≥ 0 then (some (decide (i_ < many))) else (some false)
theorem mhas_walk {img : List Int} {l : List (Int × Int)} {at_ : Int} {many : Int} {i_ : Int} {mb vb : Nat} {r : Bool} (B : Nat) (w : World) (hmb : w.heap[mb]? = some (.cells [(zp vb), (zi at_), (zi many)].toArray 213 (0, 0))) (hv : ViewAt (ptr vb) img l w) (hm : mhas_M many i_ = some r) : Spec Tryz.prog 155 #[(zp mb), (zi i_)] B w [] (fun v H' => v = .bool r ∧ H' = []) := by
 refine spec_Q Tryz.func155 rfl fun hs => ?_
 unfold mhas_M at hm
 refine W.sr fun K1 hK1 => ?_
 refine zE 1 (hK1 _ _ ?_)
 refine W.sr fun K2 hK2 => ?_
 refine zR 7 ?_
 rcases Bool.eq_false_or_eq_true (decide (i_ ≥ 0)) with h3 | h3
 ·
  obtain ⟨h3p, hm⟩ := iY hm h3
  refine zS 11 h3 ?_
  refine zS 9 h3 ?_
  refine zS 10 h3 ?_
  refine zR 4 ?_
  refine zL ⟨mb, 2, none⟩ (zi many) (cell_of_blk (hs.old hmb) rfl) ?_
  refine zE 3 (hK2 _ _ ?_)
  refine W.ret ?_
  obtain rfl := some_inj hm
  refine ret_of (.bool (decide (i_ < many))) (by kernel_rfl) ⟨_, ⟨rfl, rfl⟩, hs⟩
 obtain ⟨h3p, hm⟩ := iN hm h3
 refine zS 11 h3 ?_
 refine zS 9 h3 ?_
 refine zS 10 h3 ?_
 refine zE 8 (hK2 _ _ ?_)
 refine W.ret ?_
 obtain rfl := some_inj hm
 refine ret_of (.bool false) (by kernel_rfl) ⟨_, ⟨rfl, rfl⟩, hs⟩
def mword_M (at_ : Int) (i_ : Int) : Option (Int × Int) :=
 need (-9223372036854775808 ≤ (i_.tdiv 64) ∧ (i_.tdiv 64) ≤ 9223372036854775807) <|
need (-9223372036854775808 ≤ (at_ + (i_.tdiv 64)) ∧ (at_ + (i_.tdiv 64)) ≤ 9223372036854775807) <|
need (0 ≤ i_.tmod 64) <|
some ((at_ + (i_.tdiv 64)), (shlK .u64 1 (i_.tmod 64)))
theorem mword_walk {img : List Int} {l : List (Int × Int)} {at_ : Int} {many : Int} {i_ : Int} {mb vb : Nat} {r : Int × Int} (B : Nat) (w : World) (hmb : w.heap[mb]? = some (.cells [(zp vb), (zi at_), (zi many)].toArray 213 (0, 0))) (hv : ViewAt (ptr vb) img l w) (hm : mword_M at_ i_ = some r) : Spec Tryz.prog 156 #[(zp mb), (zi i_)] B w [] (fun v H' => v = .tuple #[.int .i64 r.1, .int .u64 r.2] ∧ H' = []) := by
 refine spec_Q Tryz.func156 rfl fun hs => ?_
 unfold mword_M at hm
 refine W.sr fun K1 hK1 => ?_
 refine zE 2 (hK1 _ _ ?_)
 refine W.seq fun K2 hK2 => ?_
 have hs3 := hs.drew
 refine W.regionD [(0, 0), (1, 1), (2, 2), (4, 4), (0, 0), (16, 16), (40, 40), (0, 0), (128, 128), (256, 256), (127, 64), (2047, 512)] (fun w_ => St B w [] w_ []) (by kernel_rfl) hs3 ?_
 refine zA (zp mb) 0 hs3 ?_
 refine zA (zp mb) 1 hs3 ?_
 refine zA (.pointer (some ⟨mb, 1, none⟩)) 2 hs3 ?_
 refine zB 3 ⟨mb, 1, none⟩ (zi at_) (fun _ hS_ => (cell_of_blk (hS_.old hmb) rfl)) hs3 ?_
 refine zA (zi i_) 4 hs3 ?_
 obtain ⟨h4, hm⟩ := need_some hm
 refine any_R (v := .int .i64 (i_.tdiv 64)) 5 (by kernel_rfl) (fun _ hS_ => runs_quo (k := .i64) (a := i_) (b := 64) (by kernel_rfl) (by decide) (wrap_i64 h4.1 h4.2)) hs3 ?_
 obtain ⟨h5, hm⟩ := need_some hm
 refine any_val (v := .int .i64 (IntKind.i64.wrap (at_ + (i_.tdiv 64)))) (v' := .int .i64 (at_ + (i_.tdiv 64))) 6 (by kernel_rfl) (fun _ => by kernel_rfl) (congrArg (Value.int .i64) (wrap_i64 h5.1 h5.2)) hs3 ?_
 refine zA (zi i_) 7 hs3 ?_
 refine zA (zi (i_.tmod 64)) 8 hs3 ?_
 obtain ⟨h6, hm⟩ := need_some hm
 refine any_R (v := .int .u64 (shlK .u64 1 (i_.tmod 64))) 9 (by kernel_rfl) (fun _ hS_ => runs_shift (b := true) (k := .u64) (x := 1) (y := i_.tmod 64) (by kernel_rfl) h6) hs3 ?_
 refine zA (zi (at_ + (i_.tdiv 64))) 10 hs3 ?_
 refine zA (zu (shlK .u64 1 (i_.tmod 64))) 11 hs3 ?_
 refine any_done (by kernel_rfl) ?_
 refine hK2 _ _ ?_
 refine W.ret ?_
 obtain rfl := some_inj hm
 refine ret_of (.tuple #[(zi (at_ + (i_.tdiv 64))), (zu (shlK .u64 1 (i_.tmod 64)))]) (by kernel_rfl) ⟨_, ⟨rfl, rfl⟩, hs3⟩
end Go.Proofs.YtmmclabkkigiaaaGreatDoor

namespace Go.Proofs.YtmmclabkkigiaaaGreatDoor
open Go Go.RowKit
theorem mhas_ok (many i_ : Int) : mhas_M many i_ = some (decide (0 ≤ i_ ∧ i_ < many)) := by
  unfold mhas_M
  by_cases h : i_ ≥ 0
  · rw [if_pos h]
    congr 1
    exact decide_eq_decide.2 (by omega)
  · rw [if_neg h]
    congr 1
    exact (decide_eq_false (by omega)).symm
theorem shl_one {j : Int} (h : 0 ≤ j ∧ j < 64) : shlK .u64 1 j = 2 ^ j.toNat := by
  have e : min j.toNat IntKind.u64.bits = j.toNat := by
    have : IntKind.u64.bits = 64 := rfl
    omega
  unfold shlK
  rw [e, Int.one_mul]
  have h1 : (2 : Nat) ^ j.toNat < 2 ^ 64 := Nat.pow_lt_pow_right (by omega) (by omega)
  have h2 : ((2 ^ j.toNat : Nat) : Int) = 2 ^ j.toNat := by simp
  rw [← h2]
  exact wrap_u64 (Int.natCast_nonneg _) (Int.ofNat_lt.2 h1)
theorem mword_ok {at_ i_ : Int} (h : 0 ≤ i_ ∧ i_ ≤ 1000000000000 ∧ 0 ≤ at_ ∧ at_ ≤ 1000000000000) : mword_M at_ i_ = some (at_ + i_ / 64, 2 ^ (i_ % 64).toNat) := by
  unfold mword_M
  have e1 : i_.tdiv 64 = i_ / 64 := Int.tdiv_eq_ediv_of_nonneg h.1
  have e2 : i_.tmod 64 = i_ % 64 := Int.tmod_eq_emod_of_nonneg h.1
  rw [e1, e2]
  refine need_of (by omega) (need_of (by omega) (need_of (by omega) ?_))
  rw [shl_one (by omega)]
def mwordAt (img : List Int) (l : List (Int × Int)) (at_ many : Int) (k : Nat) : Int :=
  if many - 64 * (k : Int) < 64 then vget img l (at_ + (k : Int)) % 2 ^ (many - 64 * (k : Int)).toNat else vget img l (at_ + (k : Int))
def nWords (many : Int) : Nat := ((many + 63) / 64).toNat
theorem and_mask (v : Int) {j : Nat} (hj : j < 64) : bits .and .u64 v (2 ^ j - 1) = v % 2 ^ j := by
  have h1 : (2 : Nat) ^ j < 2 ^ 64 := Nat.pow_lt_pow_right (by omega) hj
  have h0 : 0 < (2 : Nat) ^ j := Nat.pow_pos (by omega)
  have e1 : (2 : Int) ^ j - 1 = ((2 ^ j - 1 : Nat) : Int) := by
    rw [Int.ofNat_sub (by omega)]
    simp
  have hb : (BitVec.ofInt 64 (2 ^ j - 1)).toNat = 2 ^ j - 1 := by
    rw [e1, BitVec.ofInt_natCast, BitVec.toNat_ofNat]
    exact Nat.mod_eq_of_lt (by omega)
  have ha : (BitVec.ofInt 64 v).toNat = (v % 18446744073709551616).toNat := by
    rw [BitVec.toNat_ofInt]
    rfl
  show IntKind.u64.wrap ((BitVec.ofInt 64 v &&& BitVec.ofInt 64 (2 ^ j - 1)).toNat : Int) = _
  rw [BitVec.toNat_and, hb, ha, Nat.and_two_pow_sub_one_eq_mod]
  have h2 : (v % 18446744073709551616).toNat % 2 ^ j < 2 ^ j := Nat.mod_lt _ h0
  rw [wrap_u64 (Int.natCast_nonneg _) (by have := Int.ofNat_lt.2 (Nat.lt_trans h2 h1); simpa using this)]
  have h3 : ((v % 18446744073709551616).toNat : Int) = v % 18446744073709551616 := Int.toNat_of_nonneg (Int.emod_nonneg _ (by omega))
  rw [Int.natCast_emod, h3]
  have h4 : ((2 ^ j : Nat) : Int) ∣ 18446744073709551616 := by
    have : (2 : Nat) ^ j ∣ 2 ^ 64 := Nat.pow_dvd_pow 2 (by omega)
    exact Int.ofNat_dvd.2 this
  rw [Int.emod_emod_of_dvd _ h4]
  simp
theorem mword_whole {img : List Int} {l : List (Int × Int)} {at_ many : Int} {k : Nat} (h : ¬ many - 64 * (k : Int) < 64) : vget img l (at_ + 64 * (k : Int) / 64) = mwordAt img l at_ many k := by
  unfold mwordAt
  rw [if_neg h]
  congr 2
  omega
theorem mword_part {img : List Int} {l : List (Int × Int)} {at_ many : Int} {k : Nat} (h : many - 64 * (k : Int) < 64) (h0 : 0 < many - 64 * (k : Int)) :
    bits .and .u64 (vget img l (at_ + 64 * (k : Int) / 64)) ((shlK .u64 1 (many - 64 * (k : Int)) - 1) % 18446744073709551616) = mwordAt img l at_ many k := by
  unfold mwordAt
  rw [if_pos h, shl_one (by omega)]
  have h1 : (2 : Nat) ^ (many - 64 * (k : Int)).toNat < 2 ^ 64 := Nat.pow_lt_pow_right (by omega) (by omega)
  have h2 : ((2 ^ (many - 64 * (k : Int)).toNat : Nat) : Int) = 2 ^ (many - 64 * (k : Int)).toNat := by simp
  have h3 := Int.ofNat_lt.2 h1
  rw [h2] at h3
  have h5 : (0 : Int) < 2 ^ (many - 64 * (k : Int)).toNat := by rw [← h2]; exact Int.ofNat_lt.2 (Nat.pow_pos (by omega))
  rw [Int.emod_eq_of_lt (by omega) (by simp at h3; omega), and_mask _ (by omega)]
  congr 2
  congr 1
  omega
section
variable {mb vb : Nat} {img : List Int} {l : List (Int × Int)} {at_ many i_ : Int}
theorem mhas_spec (B : Nat) (w : World) (hmb : w.heap[mb]? = some (.cells [ptr vb, .int .i64 at_, .int .i64 many].toArray 213 (0, 0))) (hv : ViewAt (ptr vb) img l w) :
    Spec Tryz.prog 155 #[ptr mb, .int .i64 i_] B w [] (fun v H' => v = .bool (decide (0 ≤ i_ ∧ i_ < many)) ∧ H' = []) := mhas_walk B w hmb hv (mhas_ok many i_)
theorem mword_spec (B : Nat) (w : World) (hq : 0 ≤ i_ ∧ i_ ≤ 1000000000000 ∧ 0 ≤ at_ ∧ at_ ≤ 1000000000000) (hmb : w.heap[mb]? = some (.cells [ptr vb, .int .i64 at_, .int .i64 many].toArray 213 (0, 0))) (hv : ViewAt (ptr vb) img l w) :
    Spec Tryz.prog 156 #[ptr mb, .int .i64 i_] B w [] (fun v H' => v = .tuple #[.int .i64 (at_ + i_ / 64), .int .u64 (2 ^ (i_ % 64).toNat)] ∧ H' = []) := mword_walk B w hmb hv (mword_ok hq)
end
end Go.Proofs.YtmmclabkkigiaaaGreatDoor

namespace Go.Proofs.YtmmclabkkigiaaaGreatDoor
open Go Go.RowKit
theorem nat_and_split {a b c d : Nat} (ha : a < 256) (hc : c < 256) : (256 * b + a) &&& (256 * d + c) = 256 * (b &&& d) + (a &&& c) := by
  have hac : a &&& c < 2 ^ 8 := Nat.and_lt_two_pow _ hc
  refine Nat.eq_of_testBit_eq fun i => ?_
  have h1 := Nat.testBit_two_pow_mul_add b (i := 8) ha i
  have h2 := Nat.testBit_two_pow_mul_add d (i := 8) hc i
  have h3 := Nat.testBit_two_pow_mul_add (b &&& d) (i := 8) hac i
  rw [show (2 : Nat) ^ 8 = 256 from rfl] at h1 h2 h3
  rw [Nat.testBit_and, h1, h2, h3]
  by_cases h : i < 8
  · simp only [if_pos h, Nat.testBit_and]
  · simp only [if_neg h, Nat.testBit_and]
def st1 (m x : Nat) : Nat := ((x / 2) &&& m) + (x &&& m)
def st2 (m x : Nat) : Nat := ((x / 4) &&& m) + (x &&& m)
def st3 (m x : Nat) : Nat := (x / 16 + x) &&& m
theorem st1_dec : ∀ a : Fin 256, ∀ b : Fin 2, (a.val / 2 + 128 * b.val) &&& 85 = (a.val / 2) &&& 85 := by decide +kernel
theorem st2_dec : ∀ a : Fin 256, ∀ b : Fin 4, (a.val / 4 + 64 * b.val) &&& 51 = (a.val / 4) &&& 51 := by decide +kernel
theorem st3_dec : ∀ a : Fin 100, ∀ b : Fin 8, (a.val / 16 + 16 * b.val + a.val) &&& 15 = (a.val / 16 + a.val) &&& 15 := by decide +kernel
theorem st1_split {a b m : Nat} (ha : a < 256) : st1 (256 * m + 85) (256 * b + a) = 256 * st1 m b + st1 85 a := by
  have e : (256 * b + a) / 2 = 256 * (b / 2) + (a / 2 + 128 * (b % 2)) := by omega
  unfold st1
  have d := st1_dec ⟨a, ha⟩ ⟨b % 2, by omega⟩
  dsimp only at d
  rw [e, nat_and_split (by omega) (by decide), nat_and_split ha (by decide), d]
  omega
theorem st2_split {a b m : Nat} (ha : a < 256) : st2 (256 * m + 51) (256 * b + a) = 256 * st2 m b + st2 51 a := by
  have e : (256 * b + a) / 4 = 256 * (b / 4) + (a / 4 + 64 * (b % 4)) := by omega
  unfold st2
  have d := st2_dec ⟨a, ha⟩ ⟨b % 4, by omega⟩
  dsimp only at d
  rw [e, nat_and_split (by omega) (by decide), nat_and_split ha (by decide), d]
  omega
theorem st3_split {a b m : Nat} (ha : a < 100) (hb : b % 16 < 8) : st3 (256 * m + 15) (256 * b + a) = 256 * st3 m b + st3 15 a := by
  have e : (256 * b + a) / 16 + (256 * b + a) = 256 * (b / 16 + b) + (a / 16 + 16 * (b % 16) + a) := by omega
  unfold st3
  rw [e, nat_and_split (by omega) (by decide), st3_dec ⟨a, ha⟩ ⟨b % 16, by omega⟩]
def pop8 (a : Nat) : Nat := st3 15 (st2 51 (st1 85 a))
theorem st12_lt : ∀ a : Fin 256, st1 85 a.val < 256 ∧ st2 51 (st1 85 a.val) < 100 ∧ st2 51 (st1 85 a.val) % 16 < 8 ∧ pop8 a.val ≤ 8 := by decide +kernel
def popN : Nat → Nat → Nat
  | 0, _ => 0
  | n + 1, x => x % 2 + popN n (x / 2)
theorem pop8_eq : ∀ a : Fin 256, popN 8 a.val = pop8 a.val := by decide +kernel
theorem popN_add : ∀ (n m x : Nat), popN (n + m) x = popN n x + popN m (x / 2 ^ n)
  | 0, m, x => by simp [popN]
  | n + 1, m, x => by
    rw [show n + 1 + m = (n + m) + 1 by omega, popN, popN, popN_add n m (x / 2), Nat.div_div_eq_div_mul, Nat.pow_succ, Nat.mul_comm 2]
    omega
theorem popN_mod : ∀ (n k x : Nat), n ≤ k → popN n (x % 2 ^ k) = popN n x
  | 0, _, _, _ => rfl
  | n + 1, k, x, h => by
    obtain ⟨j, rfl⟩ : ∃ j, k = j + 1 := ⟨k - 1, by omega⟩
    have e1 : x % 2 ^ (j + 1) % 2 = x % 2 := Nat.mod_mod_of_dvd x ⟨2 ^ j, by rw [Nat.pow_succ, Nat.mul_comm]⟩
    have e2 : x % 2 ^ (j + 1) / 2 = (x / 2) % 2 ^ j := by
      rw [Nat.pow_succ, Nat.mul_comm, Nat.mod_mul_right_div_self]
    rw [popN, popN, e1, e2, popN_mod n j (x / 2) (by omega)]
theorem pop_bytes {x : Nat} (b0 b1 b2 b3 b4 b5 b6 b7 : Nat) (h : x = 256 * (256 * (256 * (256 * (256 * (256 * (256 * b7 + b6) + b5) + b4) + b3) + b2) + b1) + b0)
    (h0 : b0 < 256) (h1 : b1 < 256) (h2 : b2 < 256) (h3 : b3 < 256) (h4 : b4 < 256) (h5 : b5 < 256) (h6 : b6 < 256) (h7 : b7 < 256) :
    popN 64 x = pop8 b0 + pop8 b1 + pop8 b2 + pop8 b3 + pop8 b4 + pop8 b5 + pop8 b6 + pop8 b7 := by
  have step : ∀ (n a b : Nat), a < 256 → popN (8 + n) (256 * b + a) = pop8 a + popN n b := by
    intro n a b ha
    rw [popN_add]
    have e1 : (256 * b + a) / 2 ^ 8 = b := by omega
    have e2 : popN 8 (256 * b + a) = popN 8 a := by
      rw [← popN_mod 8 8 (256 * b + a) (by omega)]
      congr 1
      omega
    rw [e1, e2, (pop8_eq ⟨a, ha⟩ : popN 8 a = pop8 a)]
  subst h
  have e7 : popN 8 b7 = pop8 b7 := pop8_eq ⟨b7, h7⟩
  rw [show (64 : Nat) = 8 + (8 + (8 + (8 + (8 + (8 + (8 + 8)))))) from rfl, step _ _ _ h0, step _ _ _ h1, step _ _ _ h2, step _ _ _ h3, step _ _ _ h4, step _ _ _ h5, step _ _ _ h6, e7]
  omega
theorem div_of {u m q r : Nat} (h : u = m * q + r) (hr : r < m) : u / m = q := by
  rw [h, Nat.add_comm, Nat.add_mul_div_left _ _ (by omega), Nat.div_eq_of_lt hr, Nat.zero_add]
theorem swar_u {c0 c1 c2 c3 c4 c5 c6 c7 y a1 a2 a3 a4 a5 a6 : Nat} (e0 : y = 256 * a1 + c0) (e1 : a1 = 256 * a2 + c1) (e2 : a2 = 256 * a3 + c2) (e3 : a3 = 256 * a4 + c3) (e4 : a4 = 256 * a5 + c4) (e5 : a5 = 256 * a6 + c5) (e6 : a6 = 256 * c7 + c6) :
    y + a1 + (a2 + a3) = 4294967296 * (a4 + a5 + a6 + c7) + (16777216 * (c3 + c4 + c5 + c6) + 65536 * (c2 + c3 + c4 + c5) + 256 * (c1 + c2 + c3 + c4) + (c0 + c1 + c2 + c3)) := by omega
theorem swar_m {c0 c1 c2 c3 c4 c5 c6 c7 y a1 a2 a3 a4 a5 a6 : Nat} (e0 : y = 256 * a1 + c0) (e1 : a1 = 256 * a2 + c1) (e2 : a2 = 256 * a3 + c2) (e3 : a3 = 256 * a4 + c3) (e4 : a4 = 256 * a5 + c4) (e5 : a5 = 256 * a6 + c5) (e6 : a6 = 256 * c7 + c6) :
    y + a1 + (a2 + a3) + (a4 + a5 + a6 + c7) = 128 * (2 * (a1 + a2 + a3 + a4 + a5 + a6 + c7)) + (c0 + c1 + c2 + c3 + c4 + c5 + c6 + c7) := by omega
theorem swar_sum {c0 c1 c2 c3 c4 c5 c6 c7 : Nat} (t0 : c0 ≤ 8) (t1 : c1 ≤ 8) (t2 : c2 ≤ 8) (t3 : c3 ≤ 8) (t4 : c4 ≤ 8) (t5 : c5 ≤ 8) (t6 : c6 ≤ 8) (t7 : c7 ≤ 8) {y : Nat} (hy : y = 256 * (256 * (256 * (256 * (256 * (256 * (256 * c7 + c6) + c5) + c4) + c3) + c2) + c1) + c0) :
    (((y + y / 256) + (y + y / 256) / 65536) + ((y + y / 256) + (y + y / 256) / 65536) / 4294967296) % 128 = c0 + c1 + c2 + c3 + c4 + c5 + c6 + c7 ∧ y < 651061555542690058 := by
  obtain ⟨a6, e6⟩ : ∃ a, a = 256 * c7 + c6 := ⟨_, rfl⟩
  rw [← e6] at hy
  obtain ⟨a5, e5⟩ : ∃ a, a = 256 * a6 + c5 := ⟨_, rfl⟩
  rw [← e5] at hy
  obtain ⟨a4, e4⟩ : ∃ a, a = 256 * a5 + c4 := ⟨_, rfl⟩
  rw [← e4] at hy
  obtain ⟨a3, e3⟩ : ∃ a, a = 256 * a4 + c3 := ⟨_, rfl⟩
  rw [← e3] at hy
  obtain ⟨a2, e2⟩ : ∃ a, a = 256 * a3 + c2 := ⟨_, rfl⟩
  rw [← e2] at hy
  obtain ⟨a1, e1⟩ : ∃ a, a = 256 * a2 + c1 := ⟨_, rfl⟩
  rw [← e1] at hy
  have b6 : a6 ≤ 2056 := by omega
  have b5 : a5 ≤ 526344 := by clear e1 e2 e3 e4 hy; omega
  have b4 : a4 ≤ 134744072 := by clear e1 e2 e3 e5 e6 hy; omega
  have b3 : a3 ≤ 34494482440 := by clear e1 e2 e4 e5 e6 hy; omega
  have b2 : a2 ≤ 8830587504648 := by clear e1 e3 e4 e5 e6 hy; omega
  have b1 : a1 ≤ 2260630401189896 := by clear e2 e3 e4 e5 e6 hy; omega
  have b0 : y < 651061555542690058 := by clear e1 e2 e3 e4 e5 e6; omega
  have q1 : y / 256 = a1 := div_of hy (by omega)
  have hu := swar_u hy e1 e2 e3 e4 e5 e6
  have hm := swar_m hy e1 e2 e3 e4 e5 e6
  have q2 : (y + a1) / 65536 = a2 + a3 := by
    have h2 : y + a1 = 65536 * (a2 + a3) + (256 * (c1 + c2) + (c0 + c1)) := by clear hu hm t0 t1 t2 t3 t4 t5 t6 t7 b0 b1 b2 b3 b4 b5 b6 q1 e3 e4 e5 e6; omega
    exact div_of h2 (by clear h2 hu hm e1 e2 e3 e4 e5 e6 hy; omega)
  rw [q1, q2, div_of hu (by clear hu hm e1 e2 e3 e4 e5 e6 hy; omega), hm]
  refine ⟨?_, b0⟩
  rw [Nat.mul_add_mod, Nat.mod_eq_of_lt (by clear hu hm e1 e2 e3 e4 e5 e6 hy; omega)]
theorem swar_eq {x : Nat} (hx : x < 18446744073709551616) :
    ∃ y, st3 1085102592571150095 (st2 3689348814741910323 (st1 6148914691236517205 x)) = y ∧
      (((y + y / 256) + (y + y / 256) / 65536) + ((y + y / 256) + (y + y / 256) / 65536) / 4294967296) % 128 = popN 64 x ∧ y < 651061555542690058 := by
  obtain ⟨b0, x1, e0, h0⟩ : ∃ b0 x1, x = 256 * x1 + b0 ∧ b0 < 256 := ⟨x % 256, x / 256, by omega, by omega⟩
  obtain ⟨b1, x2, e1, h1⟩ : ∃ b1 x2, x1 = 256 * x2 + b1 ∧ b1 < 256 := ⟨x1 % 256, x1 / 256, by omega, by omega⟩
  obtain ⟨b2, x3, e2, h2⟩ : ∃ b2 x3, x2 = 256 * x3 + b2 ∧ b2 < 256 := ⟨x2 % 256, x2 / 256, by omega, by omega⟩
  obtain ⟨b3, x4, e3, h3⟩ : ∃ b3 x4, x3 = 256 * x4 + b3 ∧ b3 < 256 := ⟨x3 % 256, x3 / 256, by omega, by omega⟩
  obtain ⟨b4, x5, e4, h4⟩ : ∃ b4 x5, x4 = 256 * x5 + b4 ∧ b4 < 256 := ⟨x4 % 256, x4 / 256, by omega, by omega⟩
  obtain ⟨b5, x6, e5, h5⟩ : ∃ b5 x6, x5 = 256 * x6 + b5 ∧ b5 < 256 := ⟨x5 % 256, x5 / 256, by omega, by omega⟩
  obtain ⟨b6, b7, e6, h6⟩ : ∃ b6 b7, x6 = 256 * b7 + b6 ∧ b6 < 256 := ⟨x6 % 256, x6 / 256, by omega, by omega⟩
  have h7 : b7 < 256 := by omega
  subst e6 e5 e4 e3 e2 e1 e0
  rw [pop_bytes b0 b1 b2 b3 b4 b5 b6 b7 rfl h0 h1 h2 h3 h4 h5 h6 h7]
  obtain ⟨p0, q0, r0, t0⟩ := st12_lt ⟨b0, h0⟩
  obtain ⟨p1, q1, r1, t1⟩ := st12_lt ⟨b1, h1⟩
  obtain ⟨p2, q2, r2, t2⟩ := st12_lt ⟨b2, h2⟩
  obtain ⟨p3, q3, r3, t3⟩ := st12_lt ⟨b3, h3⟩
  obtain ⟨p4, q4, r4, t4⟩ := st12_lt ⟨b4, h4⟩
  obtain ⟨p5, q5, r5, t5⟩ := st12_lt ⟨b5, h5⟩
  obtain ⟨p6, q6, r6, t6⟩ := st12_lt ⟨b6, h6⟩
  obtain ⟨p7, q7, r7, t7⟩ := st12_lt ⟨b7, h7⟩
  dsimp only at p0 q0 r0 t0 p1 q1 r1 t1 p2 q2 r2 t2 p3 q3 r3 t3 p4 q4 r4 t4 p5 q5 r5 t5 p6 q6 r6 t6 p7 q7 r7 t7
  have u1 : st1 6148914691236517205 (256 * (256 * (256 * (256 * (256 * (256 * (256 * b7 + b6) + b5) + b4) + b3) + b2) + b1) + b0) =
      256 * (256 * (256 * (256 * (256 * (256 * (256 * st1 85 b7 + st1 85 b6) + st1 85 b5) + st1 85 b4) + st1 85 b3) + st1 85 b2) + st1 85 b1) + st1 85 b0 := by
    rw [show (6148914691236517205 : Nat) = 256 * (256 * (256 * (256 * (256 * (256 * (256 * 85 + 85) + 85) + 85) + 85) + 85) + 85) + 85 from rfl,
      st1_split h0, st1_split h1, st1_split h2, st1_split h3, st1_split h4, st1_split h5, st1_split h6]
  rw [u1]
  have u2 : ∀ c0 c1 c2 c3 c4 c5 c6 c7 : Nat, c0 < 256 → c1 < 256 → c2 < 256 → c3 < 256 → c4 < 256 → c5 < 256 → c6 < 256 → st2 3689348814741910323 (256 * (256 * (256 * (256 * (256 * (256 * (256 * c7 + c6) + c5) + c4) + c3) + c2) + c1) + c0) =
      256 * (256 * (256 * (256 * (256 * (256 * (256 * st2 51 c7 + st2 51 c6) + st2 51 c5) + st2 51 c4) + st2 51 c3) + st2 51 c2) + st2 51 c1) + st2 51 c0 := by
    intro c0 c1 c2 c3 c4 c5 c6 c7 g0 g1 g2 g3 g4 g5 g6
    rw [show (3689348814741910323 : Nat) = 256 * (256 * (256 * (256 * (256 * (256 * (256 * 51 + 51) + 51) + 51) + 51) + 51) + 51) + 51 from rfl,
      st2_split g0, st2_split g1, st2_split g2, st2_split g3, st2_split g4, st2_split g5, st2_split g6]
  rw [u2 _ _ _ _ _ _ _ _ p0 p1 p2 p3 p4 p5 p6]
  have u3 : ∀ c0 c1 c2 c3 c4 c5 c6 c7 : Nat, c0 < 100 → c1 < 100 → c2 < 100 → c3 < 100 → c4 < 100 → c5 < 100 → c6 < 100 → c1 % 16 < 8 → c2 % 16 < 8 → c3 % 16 < 8 → c4 % 16 < 8 → c5 % 16 < 8 → c6 % 16 < 8 → c7 % 16 < 8 →
      st3 1085102592571150095 (256 * (256 * (256 * (256 * (256 * (256 * (256 * c7 + c6) + c5) + c4) + c3) + c2) + c1) + c0) =
      256 * (256 * (256 * (256 * (256 * (256 * (256 * st3 15 c7 + st3 15 c6) + st3 15 c5) + st3 15 c4) + st3 15 c3) + st3 15 c2) + st3 15 c1) + st3 15 c0 := by
    intro c0 c1 c2 c3 c4 c5 c6 c7 g0 g1 g2 g3 g4 g5 g6 k1 k2 k3 k4 k5 k6 k7
    rw [show (1085102592571150095 : Nat) = 256 * (256 * (256 * (256 * (256 * (256 * (256 * 15 + 15) + 15) + 15) + 15) + 15) + 15) + 15 from rfl,
      st3_split g0 (by omega), st3_split g1 (by omega), st3_split g2 (by omega), st3_split g3 (by omega), st3_split g4 (by omega), st3_split g5 (by omega), st3_split g6 (by omega)]
  rw [u3 _ _ _ _ _ _ _ _ q0 q1 q2 q3 q4 q5 q6 r1 r2 r3 r4 r5 r6 r7]
  refine ⟨_, rfl, ?_⟩
  rw [show st3 15 (st2 51 (st1 85 b0)) = pop8 b0 from rfl, show st3 15 (st2 51 (st1 85 b1)) = pop8 b1 from rfl, show st3 15 (st2 51 (st1 85 b2)) = pop8 b2 from rfl, show st3 15 (st2 51 (st1 85 b3)) = pop8 b3 from rfl, show st3 15 (st2 51 (st1 85 b4)) = pop8 b4 from rfl, show st3 15 (st2 51 (st1 85 b5)) = pop8 b5 from rfl, show st3 15 (st2 51 (st1 85 b6)) = pop8 b6 from rfl, show st3 15 (st2 51 (st1 85 b7)) = pop8 b7 from rfl]
  generalize pop8 b0 = c0 at *
  generalize pop8 b1 = c1 at *
  generalize pop8 b2 = c2 at *
  generalize pop8 b3 = c3 at *
  generalize pop8 b4 = c4 at *
  generalize pop8 b5 = c5 at *
  generalize pop8 b6 = c6 at *
  generalize pop8 b7 = c7 at *
  clear p0 q0 r0 p1 q1 r1 p2 q2 r2 p3 q3 r3 p4 q4 r4 p5 q5 r5 p6 q6 r6 p7 q7 r7 u1 u2 u3 h0 h1 h2 h3 h4 h5 h6 h7 hx
  exact swar_sum t0 t1 t2 t3 t4 t5 t6 t7 rfl
end Go.Proofs.YtmmclabkkigiaaaGreatDoor

namespace Go.Proofs.YtmmclabkkigiaaaGreatDoor
open Go Go.RowKit
theorem vlook_vset {l : List (Int × Int)} {k v k' : Int} : vlook (vset l k v) k' = if k' = k then some v else vlook l k' := by
  cases hl : vlook l k with
  | none =>
    rw [vset_none hl]
    unfold vlook
    rw [List.find?_append]
    by_cases h : k' = k
    · subst h
      have h0 : l.find? (fun p => p.1 == k') = none := by
        unfold vlook at hl
        simpa using hl
      simp [h0]
    · have : ((k == k') : Bool) = false := by simpa using fun e => h e.symm
      simp [this, h]
  | some x =>
    have e : vset l k v = l.map fun p => if p.1 = k then (k, v) else p := by unfold vset; rw [hl]
    rw [e]
    clear e
    unfold vlook at hl ⊢
    induction l with
    | nil => simp at hl
    | cons p l ih =>
      by_cases hp : p.1 = k
      · by_cases h : k' = k
        · subst h; simp [hp]
        · have h1 : ((k == k') : Bool) = false := by simpa using fun e => h e.symm
          simp only [List.map_cons, hp, if_true, List.find?_cons, h1, h, if_false]
          have : ∀ m : List (Int × Int), (m.map fun p => if p.1 = k then (k, v) else p).find? (fun p => p.1 == k') = m.find? (fun p => p.1 == k') := by
            intro m
            induction m with
            | nil => rfl
            | cons q m ihm =>
              by_cases hq : q.1 = k
              · simp only [List.map_cons, hq, if_true, List.find?_cons, h1, ihm]
              · simp only [List.map_cons, hq, if_false, List.find?_cons, ihm]
          rw [this]
          try rfl
      · have hp' : ((p.1 == k) : Bool) = false := by simpa using hp
        simp only [List.find?_cons, hp'] at hl
        simp only [List.map_cons, hp, if_false, List.find?_cons]
        cases hq : (p.1 == k') with
        | true =>
          have : ¬ k' = k := by
            intro e; subst e; simp at hq; exact hp hq
          simp [this]
        | false =>
          have := ih (by simpa using hl)
          simpa using this
theorem vget_vset {img : List Int} {l : List (Int × Int)} {a x k : Int} (h : 0 ≤ a ∧ a < img.length) : vget img (vset l a x) k = if k = a then x else vget img l k := by
  simp only [vget, vlook_vset]
  by_cases hk : k = a
  · subst hk; simp [h]
  · simp [hk]
end Go.Proofs.YtmmclabkkigiaaaGreatDoor

namespace Go.Proofs.YtmmclabkkigiaaaGreatDoor
open Go Go.RowKit
def U64 (v : Int) : Prop := 0 ≤ v ∧ v < 18446744073709551616
theorem u64_zero : U64 0 := by unfold U64; omega
def VR (img : List Int) (l : List (Int × Int)) : Prop := ∀ k, U64 (vget img l k)
theorem VR.nil {img : List Int} (h : ∀ x ∈ img, U64 x) : VR img [] := by
  intro k
  unfold vget
  split
  · simp only [show vlook [] k = none from rfl, Option.getD_none]
    rw [List.getD_eq_getElem?_getD]
    rcases Nat.lt_or_ge k.toNat img.length with hk | hk
    · rw [List.getElem?_eq_getElem hk]; exact h _ (List.getElem_mem hk)
    · rw [List.getElem?_eq_none hk]; exact u64_zero
  · exact u64_zero
theorem VR.put {img : List Int} {l : List (Int × Int)} {a x : Int} (h : VR img l) (ha : 0 ≤ a ∧ a < img.length) (hx : U64 x) : VR img (vset l a x) := by
  intro k
  rw [vget_vset ha]
  split
  · exact hx
  · exact h k
theorem fmtW_u64 {gw gi gb : Int} : ∀ x ∈ fmtW gw gi gb, U64 x := by
  intro x hx
  unfold fmtW at hx
  split at hx
  · rename_i hm
    have hm_ := may_out hm
    unfold U64
    rcases List.mem_or_eq_of_mem_set hx with hx | rfl
    · rcases List.mem_or_eq_of_mem_set hx with hx | rfl
      · rcases List.mem_or_eq_of_mem_set hx with hx | rfl
        · rcases List.mem_or_eq_of_mem_set hx with hx | rfl
          · rcases List.mem_or_eq_of_mem_set hx with hx | rfl
            · rcases List.mem_or_eq_of_mem_set hx with hx | rfl
              · rcases List.mem_or_eq_of_mem_set hx with hx | rfl
                · rcases List.mem_or_eq_of_mem_set hx with hx | rfl
                  · have := List.eq_of_mem_replicate hx
                    omega
                  · omega
                · omega
              · omega
            · omega
          · omega
        · omega
      · omega
    · omega
  · simp at hx
end Go.Proofs.YtmmclabkkigiaaaGreatDoor

set_option maxRecDepth 20000
set_option maxHeartbeats 2000000
namespace Go.Proofs.YtmmclabkkigiaaaGreatDoor
open Go Go.RowKit
theorem words1_spec {mb vb cb yl : Nat} {img : List Int} {l : List (Int × Int)} {at_ many : Int} {w00 : World} {Y : Nat → Asn} {Z : Asn} (B : Nat) (w : World) (hM : (0 ≤ at_ ∧ at_ ≤ 1000000000000) ∧ (1 ≤ many ∧ many ≤ 1000000000000)) (hmb : w00.heap[mb]? = some (.cells [(zp vb), (zi at_), (zi many)].toArray 213 (0, 0))) (hv : ViewAt (ptr vb) img l w00) (hy : ∀ k : Nat, 64 * (k : Int) < many → ∀ w', YSpec Tryz.prog yl #[.int .i64 (64 * (k : Int)), .int .u64 (mwordAt img l at_ many k)] B w' [Y k] (fun v H' => (v = .bool true ∧ H' = [Y (k + 1)]) ∨ (v = .bool false ∧ H' = [Z]))) : Spec Tryz.prog 157 #[(.func (.yield yl) #[] #[]), (zp cb)] B w [keepA w00, zb cb 202 [(zp mb)], Y 0] (fun v H' => v = .tuple #[] ∧ (H' = [keepA w00, zb cb 202 [(zp mb)], Y (nWords many)] ∨ H' = [keepA w00, zb cb 202 [(zp mb)], Z])) := by
 refine spec_W Tryz.func157 rfl fun l0 hs => ?_
 refine W.seq fun K1 hK1 => ?_
 refine W.sr fun K2 hK2 => ?_
 refine zL ⟨cb, 0, none⟩ (zp mb) (hs.cellAt 1 rfl rfl) ?_
 refine zE 1 (hK2 _ _ ?_)
 refine W.cond_false false (by kernel_rfl) rfl ?_
 refine W.skip ?_
 refine hK1 _ _ ?_
 refine W.sr fun K3 hK3 => ?_
 refine zE 1 (hK3 _ _ ?_)
 refine W.block ?_
 refine W.loop (G := Nat) (fun | k, s_, w_ => (∃ us, s_ = slots 46 [(0, (.func (.yield yl) #[] #[])), (1, (zp cb)), (3, (zi (64 * (k : Int))))] us) ∧ St B w l0 w_ [keepA w00, zb cb 202 [(zp mb)], Y k] ∧ (64 * (k : Int) < many + 64)) (fun k => (many - 64 * (k : Int)).toNat) 0 ⟨slots_intro _ (by kernel_rfl), hs, by omega⟩ ?_
 rintro k _ w4 ⟨⟨us, rfl⟩, hs5, hk0⟩
 refine W.seq fun K6 hK6 => ?_
 refine W.sr fun K7 hK7 => ?_
 refine zR 1 ?_
 refine zL ⟨cb, 0, none⟩ (zp mb) (hs5.cellAt 1 rfl rfl) ?_
 refine zR 2 ?_
 refine zL ⟨mb, 2, none⟩ (zi many) (cell_of_blk ((St.kept hs5 0 rfl).blk hmb) rfl) ?_
 refine zE 1 (hK7 _ _ ?_)
 refine W.cond (decide ((64 * (k : Int)) < many)) (by kernel_rfl) (fun h8 => ?_) (fun h8 => ?_)
 ·
  have h8p := of_decide_eq_true h8
  refine W.skip ?_
  refine hK6 _ _ ?_
  refine W.seq fun K9 hK9 => ?_
  refine W.block ?_
  refine W.seq fun K10 hK10 => ?_
  have hs11 := hs5.drew
  refine W.regionD [(0, 0), (1, 1), (2, 2), (4, 4), (0, 0), (16, 16), (32, 32), (64, 64), (0, 0), (256, 256), (640, 640), (1032, 1032), (4095, 2048)] (fun w_ => St B w l0 w_ [keepA w00, zb cb 202 [(zp mb)], Y k]) (by kernel_rfl) hs11 ?_
  refine zB 0 ⟨cb, 0, none⟩ (zp mb) (fun _ hS_ => (hS_.cellAt 1 rfl rfl)) hs11 ?_
  refine zA (zp mb) 1 hs11 ?_
  refine zA (zp mb) 2 hs11 ?_
  refine zB 3 ⟨mb, 0, none⟩ (zp vb) (fun _ hS_ => (cell_of_blk ((St.kept hS_ 0 rfl).blk hmb) rfl)) hs11 ?_
  refine zB 4 ⟨cb, 0, none⟩ (zp mb) (fun _ hS_ => (hS_.cellAt 1 rfl rfl)) hs11 ?_
  refine zA (zp mb) 5 hs11 ?_
  refine zA (.pointer (some ⟨mb, 1, none⟩)) 6 hs11 ?_
  refine zB 7 ⟨mb, 1, none⟩ (zi at_) (fun _ hS_ => (cell_of_blk ((St.kept hS_ 0 rfl).blk hmb) rfl)) hs11 ?_
  refine zA (zi (64 * (k : Int))) 8 hs11 ?_
  have h12 : 0 ≤ (64 * (k : Int)) := by omega
  have h13 : -9223372036854775808 ≤ ((64 * (k : Int)) / 64) ∧ ((64 * (k : Int)) / 64) ≤ 9223372036854775807 := by omega
  refine any_R (v := .int .i64 ((64 * (k : Int)) / 64)) 9 (by kernel_rfl) (fun _ hS_ => runs_quo (k := .i64) (a := (64 * (k : Int))) (b := 64) (by kernel_rfl) (by decide) ((congrArg IntKind.i64.wrap (Int.tdiv_eq_ediv_of_nonneg h12)).trans (wrap_i64 h13.1 h13.2))) hs11 ?_
  have h14 : -9223372036854775808 ≤ (at_ + ((64 * (k : Int)) / 64)) ∧ (at_ + ((64 * (k : Int)) / 64)) ≤ 9223372036854775807 := by omega
  refine any_val (v := .int .i64 (IntKind.i64.wrap (at_ + ((64 * (k : Int)) / 64)))) (v' := .int .i64 (at_ + ((64 * (k : Int)) / 64))) 10 (by kernel_rfl) (fun _ => by kernel_rfl) (congrArg (Value.int .i64) (wrap_i64 h14.1 h14.2)) hs11 ?_
  refine any_step 11 (by kernel_rfl) (by kernel_rfl) ?_
  refine zC00 hs11 (get_spec (at_ := (at_ + ((64 * (k : Int)) / 64))) (hv := ((St.kept hs11 0 rfl).view hv)) B _) fun w15 hs17 => ?_
  refine ops_done (by kernel_rfl) ⟨hs17, ?_⟩
  refine zA (zu (vget img l (at_ + ((64 * (k : Int)) / 64)))) 12 hs17 ?_
  refine any_done (by kernel_rfl) ?_
  refine hK10 _ _ ?_
  refine W.seq fun K18 hK18 => ?_
  refine W.sr fun K19 hK19 => ?_
  refine zL ⟨cb, 0, none⟩ (zp mb) (hs17.cellAt 1 rfl rfl) ?_
  refine zR 2 ?_
  refine zL ⟨mb, 2, none⟩ (zi many) (cell_of_blk ((St.kept hs17 0 rfl).blk hmb) rfl) ?_
  refine zR 1 ?_
  have h20 : -9223372036854775808 ≤ (many - (64 * (k : Int))) ∧ (many - (64 * (k : Int))) ≤ 9223372036854775807 := by omega
  refine zI _ (wrap_i64 h20.1 h20.2) ?_
  refine zE 1 (hK19 _ _ ?_)
  refine W.sr fun K21 hK21 => ?_
  refine zE 2 (hK21 _ _ ?_)
  refine W.cond (decide ((many - (64 * (k : Int))) < 64)) (by kernel_rfl) (fun h22 => ?_) (fun h22 => ?_)
  ·
   have h22p := of_decide_eq_true h22
   refine W.region ?_
   refine zR 2 ?_
   have h23 : 0 ≤ (many - (64 * (k : Int))) := by omega
   refine ops_R (v := .int .u64 (shlK .u64 1 (many - (64 * (k : Int))))) (runs_shift (b := true) (k := .u64) (x := 1) (y := (many - (64 * (k : Int)))) (by kernel_rfl) h23) ?_
   refine ops_val (v := .int .u64 (IntKind.u64.wrap ((shlK .u64 1 (many - (64 * (k : Int)))) - 1))) (v' := .int .u64 (((shlK .u64 1 (many - (64 * (k : Int)))) - 1) % 18446744073709551616)) (by kernel_rfl) (congrArg (Value.int .u64) (wrap_u64_mod _)) ?_
   refine zE 2 (hK18 _ _ ?_)
   refine W.sr fun K24 hK24 => ?_
   refine zR 3 ?_
   have hw_ : (bits .and .u64 (vget img l (at_ + ((64 * (k : Int)) / 64))) (((shlK .u64 1 (many - (64 * (k : Int)))) - 1) % 18446744073709551616)) = mwordAt img l at_ many k := by exact mword_part (by omega) (by omega)
   refine ops_set 43 (v := .int .u64 (mwordAt img l at_ many k)) (Eq.trans (by kernel_rfl) (congrArg (Value.int .u64) hw_)) ?_
   have hs25 := St.f2 hs17
   refine ops_yield (pre := [Y k]) (l := yl) hs25 (by kernel_rfl) (by kernel_rfl) (hy k (by omega) _) ?_
   rintro _ _ w26 (⟨rfl, rfl⟩ | ⟨rfl, rfl⟩) hs27
   ·
    have hs28 : St B w l0 w26 [Y (k + 1), keepA w00, zb cb 202 [(zp mb)]] := hs27
    refine zE 1 (hK24 _ _ ?_)
    refine W.cond_false false (by kernel_rfl) rfl ?_
    refine W.skip ?_
    refine normal_block ?_
    refine hK9 _ _ ?_
    refine W.region ?_
    refine zR 1 ?_
    have h29 : -9223372036854775808 ≤ ((64 * (k : Int)) + 64) ∧ ((64 * (k : Int)) + 64) ≤ 9223372036854775807 := by omega
    refine zI _ (wrap_i64 h29.1 h29.2) ?_
    refine zE 1 ?_
    have hs30 := St.f2 hs28
    have hs31 := St.f2 hs30
    exact ⟨k + 1, ⟨slots_intro _ (by kernel_rfl), hs31, by omega⟩, by omega⟩
   have hs32 : St B w l0 w26 [Z, keepA w00, zb cb 202 [(zp mb)]] := hs27
   refine zE 1 (hK24 _ _ ?_)
   refine W.cond_true true (by kernel_rfl) rfl ?_
   refine W.ret (ret_block (ret_seq (ret_seq (ret_block ?_))))
   have hs33 := St.f2 hs32
   have hs34 := St.f2 hs33
   refine ret_of (.tuple #[]) (by kernel_rfl) ⟨_, ⟨rfl, .inr rfl⟩, hs34⟩
  have h22p := of_decide_eq_false h22
  refine W.skip ?_
  refine hK18 _ _ ?_
  refine W.sr fun K35 hK35 => ?_
  refine zR 3 ?_
  have hw_ : (vget img l (at_ + ((64 * (k : Int)) / 64))) = mwordAt img l at_ many k := by exact mword_whole (by omega)
  refine ops_set 43 (v := .int .u64 (mwordAt img l at_ many k)) (Eq.trans (by kernel_rfl) (congrArg (Value.int .u64) hw_)) ?_
  have hs36 := St.f2 hs17
  refine ops_yield (pre := [Y k]) (l := yl) hs36 (by kernel_rfl) (by kernel_rfl) (hy k (by omega) _) ?_
  rintro _ _ w37 (⟨rfl, rfl⟩ | ⟨rfl, rfl⟩) hs38
  ·
   have hs39 : St B w l0 w37 [Y (k + 1), keepA w00, zb cb 202 [(zp mb)]] := hs38
   refine zE 1 (hK35 _ _ ?_)
   refine W.cond_false false (by kernel_rfl) rfl ?_
   refine W.skip ?_
   refine normal_block ?_
   refine hK9 _ _ ?_
   refine W.region ?_
   refine zR 1 ?_
   have h40 : -9223372036854775808 ≤ ((64 * (k : Int)) + 64) ∧ ((64 * (k : Int)) + 64) ≤ 9223372036854775807 := by omega
   refine zI _ (wrap_i64 h40.1 h40.2) ?_
   refine zE 1 ?_
   have hs41 := St.f2 hs39
   have hs42 := St.f2 hs41
   exact ⟨k + 1, ⟨slots_intro _ (by kernel_rfl), hs42, by omega⟩, by omega⟩
  have hs43 : St B w l0 w37 [Z, keepA w00, zb cb 202 [(zp mb)]] := hs38
  refine zE 1 (hK35 _ _ ?_)
  refine W.cond_true true (by kernel_rfl) rfl ?_
  refine W.ret (ret_block (ret_seq (ret_seq (ret_block ?_))))
  have hs44 := St.f2 hs43
  have hs45 := St.f2 hs44
  refine ret_of (.tuple #[]) (by kernel_rfl) ⟨_, ⟨rfl, .inr rfl⟩, hs45⟩
 have h8p := of_decide_eq_false h8
 refine W.exit (exit_seq (exit_seq (exit_here ?_)))
 have hn_ : k = nWords many := by unfold nWords; omega
 subst hn_
 refine ret_ofN (.tuple #[]) (by kernel_rfl) ⟨_, ⟨rfl, .inl rfl⟩, hs5⟩
end Go.Proofs.YtmmclabkkigiaaaGreatDoor

set_option maxRecDepth 20000
namespace Go.Proofs.YtmmclabkkigiaaaGreatDoor
open Go Go.RowKit
theorem words_spec {mp : Option Addr} (B : Nat) (w : World) : Spec Tryz.prog 151 #[(.pointer mp)] B w [] (fun v H' => ∃ b', v = .func (.func 157) #[] #[ptr b'] ∧ H' = [blk b' (.cells [(.pointer mp)].toArray 202 (0, 0))]) := by
 refine spec_Q Tryz.func151 rfl fun hs => ?_
 refine W.sr fun K1 hK1 => ?_
 refine zN [(.pointer mp)] 202 hs fun b4 w2 hs3 => ?_
 refine zE 1 (hK1 _ _ ?_)
 refine W.sr fun K5 hK5 => ?_
 refine zE 2 (hK5 _ _ ?_)
 refine W.ret ?_
 refine ret_of (.func (.func 157) #[] #[(zp b4)]) (by kernel_rfl) ⟨_, ⟨b4, rfl, rfl⟩, hs3⟩
end Go.Proofs.YtmmclabkkigiaaaGreatDoor

set_option maxRecDepth 20000
namespace Go.Proofs.YtmmclabkkigiaaaGreatDoor
open Go Go.RowKit
def ones_M (x : Int) : Option (Int) :=
 (some (((bits .and .u64 (shrK .u64 x 1) 6148914691236517205) + (bits .and .u64 x 6148914691236517205)) % 18446744073709551616)).bind fun r3 =>
(some (((bits .and .u64 (shrK .u64 r3 2) 3689348814741910323) + (bits .and .u64 r3 3689348814741910323)) % 18446744073709551616)).bind fun r6 =>
(some (bits .and .u64 (((shrK .u64 r6 4) + r6) % 18446744073709551616) 1085102592571150095)).bind fun r9 =>
(some ((r9 + (shrK .u64 r9 8)) % 18446744073709551616)).bind fun r12 =>
(some ((r12 + (shrK .u64 r12 16)) % 18446744073709551616)).bind fun r15 =>
(some ((r15 + (shrK .u64 r15 32)) % 18446744073709551616)).bind fun r18 =>
need (-9223372036854775808 ≤ r18 ∧ r18 ≤ 9223372036854775807) <|
some (bits .and .i64 r18 127)
theorem ones_walk {x : Int}  {r : Int} (B : Nat) (w : World) (hm : ones_M x = some r) : Spec Tryz.prog 152 #[(zu x)] B w [] (fun v H' => v = .int .i64 r ∧ H' = []) := by
 refine spec_Q Tryz.func152 rfl fun hs => ?_
 unfold ones_M at hm
 refine W.sr fun K1 hK1 => ?_
 refine zE 1 (hK1 _ _ ?_)
 refine W.sr fun K2 hK2 => ?_
 refine zR 5 ?_
 refine ops_val (v := .int .u64 (IntKind.u64.wrap ((bits .and .u64 (shrK .u64 x 1) 6148914691236517205) + (bits .and .u64 x 6148914691236517205)))) (v' := .int .u64 (((bits .and .u64 (shrK .u64 x 1) 6148914691236517205) + (bits .and .u64 x 6148914691236517205)) % 18446744073709551616)) (by kernel_rfl) (congrArg (Value.int .u64) (wrap_u64_mod _)) ?_
 refine zR 1 ?_
 obtain ⟨r3, h4, hm⟩ := bind_some hm
 replace h4 := some_inj h4
 refine ops_set 0 (v := .int .u64 r3) (Eq.trans (by kernel_rfl) (congrArg (Value.int .u64) h4)) ?_
 refine zD (hK2 _ _ ?_)
 refine W.sr fun K5 hK5 => ?_
 refine zR 5 ?_
 refine ops_val (v := .int .u64 (IntKind.u64.wrap ((bits .and .u64 (shrK .u64 r3 2) 3689348814741910323) + (bits .and .u64 r3 3689348814741910323)))) (v' := .int .u64 (((bits .and .u64 (shrK .u64 r3 2) 3689348814741910323) + (bits .and .u64 r3 3689348814741910323)) % 18446744073709551616)) (by kernel_rfl) (congrArg (Value.int .u64) (wrap_u64_mod _)) ?_
 refine zR 1 ?_
 obtain ⟨r6, h7, hm⟩ := bind_some hm
 replace h7 := some_inj h7
 refine ops_set 0 (v := .int .u64 r6) (Eq.trans (by kernel_rfl) (congrArg (Value.int .u64) h7)) ?_
 refine zD (hK5 _ _ ?_)
 refine W.sr fun K8 hK8 => ?_
 refine zR 3 ?_
 refine ops_val (v := .int .u64 (IntKind.u64.wrap ((shrK .u64 r6 4) + r6))) (v' := .int .u64 (((shrK .u64 r6 4) + r6) % 18446744073709551616)) (by kernel_rfl) (congrArg (Value.int .u64) (wrap_u64_mod _)) ?_
 refine zR 2 ?_
 obtain ⟨r9, h10, hm⟩ := bind_some hm
 replace h10 := some_inj h10
 refine ops_set 0 (v := .int .u64 r9) (Eq.trans (by kernel_rfl) (congrArg (Value.int .u64) h10)) ?_
 refine zD (hK8 _ _ ?_)
 refine W.sr fun K11 hK11 => ?_
 refine zR 3 ?_
 refine ops_val (v := .int .u64 (IntKind.u64.wrap (r9 + (shrK .u64 r9 8)))) (v' := .int .u64 ((r9 + (shrK .u64 r9 8)) % 18446744073709551616)) (by kernel_rfl) (congrArg (Value.int .u64) (wrap_u64_mod _)) ?_
 refine zR 1 ?_
 obtain ⟨r12, h13, hm⟩ := bind_some hm
 replace h13 := some_inj h13
 refine ops_set 0 (v := .int .u64 r12) (Eq.trans (by kernel_rfl) (congrArg (Value.int .u64) h13)) ?_
 refine zD (hK11 _ _ ?_)
 refine W.sr fun K14 hK14 => ?_
 refine zR 3 ?_
 refine ops_val (v := .int .u64 (IntKind.u64.wrap (r12 + (shrK .u64 r12 16)))) (v' := .int .u64 ((r12 + (shrK .u64 r12 16)) % 18446744073709551616)) (by kernel_rfl) (congrArg (Value.int .u64) (wrap_u64_mod _)) ?_
 refine zR 1 ?_
 obtain ⟨r15, h16, hm⟩ := bind_some hm
 replace h16 := some_inj h16
 refine ops_set 0 (v := .int .u64 r15) (Eq.trans (by kernel_rfl) (congrArg (Value.int .u64) h16)) ?_
 refine zD (hK14 _ _ ?_)
 refine W.sr fun K17 hK17 => ?_
 refine zR 3 ?_
 refine ops_val (v := .int .u64 (IntKind.u64.wrap (r15 + (shrK .u64 r15 32)))) (v' := .int .u64 ((r15 + (shrK .u64 r15 32)) % 18446744073709551616)) (by kernel_rfl) (congrArg (Value.int .u64) (wrap_u64_mod _)) ?_
 refine zR 1 ?_
 obtain ⟨r18, h19, hm⟩ := bind_some hm
 replace h19 := some_inj h19
 refine ops_set 0 (v := .int .u64 r18) (Eq.trans (by kernel_rfl) (congrArg (Value.int .u64) h19)) ?_
 refine zD (hK17 _ _ ?_)
 refine W.sr fun K20 hK20 => ?_
 refine zR 1 ?_
 obtain ⟨h21, hm⟩ := need_some hm
 refine zI _ (wrap_i64 h21.1 h21.2) ?_
 refine zE 2 (hK20 _ _ ?_)
 refine W.ret ?_
 obtain rfl := some_inj hm
 refine ret_of (zi (bits .and .i64 r18 127)) (by kernel_rfl) ⟨_, ⟨rfl, rfl⟩, hs⟩
end Go.Proofs.YtmmclabkkigiaaaGreatDoor

set_option maxRecDepth 20000
set_option maxHeartbeats 2000000
namespace Go.Proofs.YtmmclabkkigiaaaGreatDoor
open Go Go.RowKit
def mcount_D19 (p18 : Int) : Option (Int) :=
 some p18
def mcount_R19 (img : List Int) (l : List (Int × Int)) (at_ : Int) (many : Int) (k13 : Nat) (c14 : Int → Option (Int)) (p18 : Int) : Option (Int) :=
 (some (mwordAt img l at_ many k13)).bind fun r53 =>
(ones_M r53).bind fun r64 =>
need (-9223372036854775808 ≤ (p18 + r64) ∧ (p18 + r64) ≤ 9223372036854775807) <|
c14 (p18 + r64)
def mcount_M (img : List Int) (l : List (Int × Int)) (at_ : Int) (many : Int) : Option (Int) :=
 need ((0 ≤ at_ ∧ at_ ≤ 1000000000000) ∧ (1 ≤ many ∧ many ≤ 1000000000000)) <|
rounds (fun k_ c_ s_ => mcount_R19 img l at_ many k_ c_ s_) (fun s_ => mcount_D19 s_) (nWords many) 0 0
theorem mcount_walk {img : List Int} {l : List (Int × Int)} {at_ : Int} {many : Int} {mb vb : Nat} {r : Int} (B : Nat) (w : World) (hmb : w.heap[mb]? = some (.cells [(zp vb), (zi at_), (zi many)].toArray 213 (0, 0))) (hv : ViewAt (ptr vb) img l w) (hm : mcount_M img l at_ many = some r) : Spec Tryz.prog 145 #[(zp mb)] B w [] (fun v H' => v = .int .i64 r ∧ H' = []) := by
 refine spec_K Tryz.func145 rfl fun B' hB' hs => ?_
 unfold mcount_M at hm
 refine W.sr fun K1 hK1 => ?_
 refine zN [(zi 0)] 3 hs fun b4 w2 hs3 => ?_
 refine zD (hK1 _ _ ?_)
 refine W.seq fun K5 hK5 => ?_
 refine W.sr fun K6 hK6 => ?_
 refine zR 1 ?_
 refine ops_call0 hs3 (by kernel_rfl) (words_spec (mp := (some ⟨mb, 0, none⟩)) B' _) ?_
 rintro _ _ w8 ⟨b7, rfl, rfl⟩ hs9
 have hs10 := St.ap1 hs9
 refine zD (hK6 _ _ ?_)
 refine W.block ?_
 obtain ⟨h11, hm⟩ := need_some hm
 refine W.norm (n := 14) (l := [(2, (zp b4)), (6, (.func (.func 157) #[] #[(zp b7)]))]) (by kernel_rfl) (fun us12 => ?_)
 have hs15 := St.f1 hs10
 have hs16 := St.f1 hs15
 have hs17 := St.f2 hs16
 have hs24 := hs17.keep2
 have hs25 := St.f3 hs24
 have hs26 := St.f2 hs25
 have hs27 := St.f3 hs26
 have hs28 := St.f3 hs27
 have hF29 : rounds (fun k_ c_ s_ => mcount_R19 img l at_ many k_ c_ s_) (fun s_ => mcount_D19 s_) ((nWords many) - 0) 0 0 = some r := by rw [Nat.sub_zero]; exact hm
 clear hm
 refine W.roundsA (G := Int) (GZ := Unit) (gf := 157) (lb := #[(zp b7)]) (nWords many) (fun k_ p18 => rounds (fun k_ c_ s_ => mcount_R19 img l at_ many k_ c_ s_) (fun s_ => mcount_D19 s_) ((nWords many) - k_) k_ p18 = some r) (fun p18 => [keepA w, zb b4 3 [(zi p18)]]) .ret (fun (_ : Unit) => False) (fun _ => []) [keepA w, zb b7 202 [(zp mb)]] (fun k_ => #[(zi (64 * (k_ : Int))), (zu (mwordAt img l at_ many k_))]) (fun k_ l_ => slotsD 14 ((8, (zu (mwordAt img l at_ many k_))) :: (7, (zi (64 * (k_ : Int)))) :: [(2, (zp b4)), (6, (.func (.func 157) #[] #[(zp b7)]))]) us12 (some l_) []) 0 hF29 hs28 rfl (by kernel_rfl) (fun _ _ => by kernel_rfl) (fun _ => rfl) (fun a_ k_ l_ h1_ h2_ => ⟨rel_round2 (n := 14) (by decide) (by decide) h1_ h2_, rfl⟩) (fun l_ => #[.func (.yield l_) #[] #[], (zp b7)]) (fun _ => rfl) (fun l_ w_ Y_ Z_ hy_ => words1_spec (yl := l_) (w00 := w) (Y := Y_) (Z := Z_) (hM := h11) (hmb := hmb) (hv := hv) (hy := fun k_ h_ w_ => hy_ k_ (by unfold nWords; omega) w_) _ w_) ?_ ?_ ?_
 rotate_left
 ·
  rintro D23 w30 p18 hF32 hs31
  replace hF32 : rounds (fun k_ c_ s_ => mcount_R19 img l at_ many k_ c_ s_) (fun s_ => mcount_D19 s_) ((nWords many) - (nWords many)) (nWords many) p18 = some r := hF32
  rw [rounds_end] at hF32
  have hm : mcount_D19 p18 = some r := hF32
  clear hF32
  unfold mcount_D19 at hm
  have hs33 : St B' w [] w30 [blk D23 (.deferred (some [])), keepA w, zb b7 202 [(zp mb)], keepA w, zb b4 3 [(zi p18)]] := hs31
  refine normal_block ?_
  refine hK5 _ _ ?_
  refine W.sr fun K34 hK34 => ?_
  refine zL ⟨b4, 0, none⟩ (zi p18) (hs33.cellAt 4 rfl rfl) ?_
  have hs37 := St.f4 hs33
  refine zT 0 [(zi p18)] [(zi p18)] hs37 fun w35 hs38 => ?_
  refine zD (hK34 _ _ ?_)
  refine W.ret ?_
  obtain rfl := some_inj hm
  have hs39 := St.f2 hs38
  have hs40 := St.f3 hs39
  have hs41 := St.f1 hs40
  have hs42 := St.f2 hs41
  have hs43 := St.f3 hs42
  refine leave_mark (D := D23) (v := (zi p18)) hs43 (by kernel_rfl) (fun w44 hs45 => (resD_one rfl (.cell (ad := ⟨b4, 0, none⟩) (by kernel_rfl) (by kernel_rfl) (hs45.cellAt 0 rfl rfl)))) (fun w44 hs45 => ?_)
  have hs46 := St.tk0 hs45
  exact ⟨rfl, hs46⟩
 ·
  rintro _ _ _ h_ _
  exact h_.elim
 rintro k13 hk47 rc21 l20 w48 p18 hF52 lf49 hs50 K51 hK51
 replace hF52 : rounds (fun k_ c_ s_ => mcount_R19 img l at_ many k_ c_ s_) (fun s_ => mcount_D19 s_) ((nWords many) - k13) k13 p18 = some r := hF52
 rw [rounds_at hk47] at hF52
 obtain ⟨c14, hc14⟩ : ∃ c_, c_ = rounds (fun k_ c_ s_ => mcount_R19 img l at_ many k_ c_ s_) (fun s_ => mcount_D19 s_) ((nWords many) - (k13 + 1)) (k13 + 1) := ⟨_, rfl⟩
 rw [← hc14] at hF52
 have hm : mcount_R19 img l at_ many k13 c14 p18 = some r := hF52
 clear hF52
 unfold mcount_R19 at hm
 refine W.region ?_
 refine zR 1 ?_
 obtain ⟨r53, h54, hm⟩ := bind_some hm
 replace h54 := some_inj h54
 refine ops_set 4 (v := .int .u64 r53) (Eq.trans (by kernel_rfl) (congrArg (Value.int .u64) h54)) ?_
 refine zD ?_
 refine hK51 _ _ hs50 (fun w55 hs56 => ?_)
 refine W.block ?_
 have hs57 := hs56.drew
 have hs58 := St.f1 hs57
 have hs59 := St.f1 hs58
 have hs60 := St.tk2 hs59
 refine W.regionD [(0, 0), (0, 0), (2, 2), (5, 5), (15, 8)] (fun w_ => St B' w48 lf49 w_ [blk l20 (.loop { rc21 with state := .busy }), keepA w]) (by kernel_rfl) hs60 ?_
 refine zA (zu r53) 1 hs60 ?_
 refine any_step2 0 2 (by kernel_rfl) (by kernel_rfl) (by kernel_rfl) ?_ ?_
 ·
  refine zL ⟨b4, 0, none⟩ (zi p18) (hs57.cellAt 2 rfl rfl) ?_
  have hs61 := St.f1 hs57
  have hs62 := St.f1 hs61
  have hs63 := St.tk2 hs62
  refine ops_done (by kernel_rfl) ⟨hs63, ?_⟩
  refine any_step 2 (by kernel_rfl) (by kernel_rfl) ?_
  obtain ⟨r64, h65, hm⟩ := bind_some hm
  refine zC00 hs57 (ones_walk (hm := h65) B' _) fun w66 hs68 => ?_
  have hs69 := St.f1 hs68
  have hs70 := St.f1 hs69
  have hs71 := St.tk2 hs70
  refine ops_done (by kernel_rfl) ⟨hs71, ?_⟩
  obtain ⟨h72, hm⟩ := need_some hm
  refine any_val (v := .int .i64 (IntKind.i64.wrap (p18 + r64))) (v' := .int .i64 (p18 + r64)) 3 (by kernel_rfl) (fun _ => by kernel_rfl) (congrArg (Value.int .i64) (wrap_i64 h72.1 h72.2)) hs71 ?_
  refine any_step 4 (by kernel_rfl) (by kernel_rfl) ?_
  have hs75 := St.f2 hs68
  refine zT 0 [(zi (p18 + r64))] [(zi (p18 + r64))] hs75 fun w73 hs76 => ?_
  have hs77 := St.f2 hs76
  have hs78 := St.f2 hs77
  have hs79 := St.tk2 hs78
  refine ops_done (by kernel_rfl) ⟨hs79, ?_⟩
  refine any_done (by kernel_rfl) ?_
  refine normal_block ?_
  have hs80 := St.f2 hs76
  have hs81 := St.f2 hs80
  rw [hc14] at hm
  exact ⟨(p18 + r64), hm, hs81⟩
 obtain ⟨r82, h83, hm⟩ := bind_some hm
 refine zC00 hs57 (ones_walk (hm := h83) B' _) fun w84 hs86 => ?_
 have hs87 := St.f1 hs86
 have hs88 := St.f1 hs87
 have hs89 := St.tk2 hs88
 refine ops_done (by kernel_rfl) ⟨hs89, ?_⟩
 refine any_step 0 (by kernel_rfl) (by kernel_rfl) ?_
 refine zL ⟨b4, 0, none⟩ (zi p18) (hs86.cellAt 2 rfl rfl) ?_
 have hs90 := St.f1 hs86
 have hs91 := St.f1 hs90
 have hs92 := St.tk2 hs91
 refine ops_done (by kernel_rfl) ⟨hs92, ?_⟩
 obtain ⟨h93, hm⟩ := need_some hm
 refine any_val (v := .int .i64 (IntKind.i64.wrap (p18 + r82))) (v' := .int .i64 (p18 + r82)) 3 (by kernel_rfl) (fun _ => by kernel_rfl) (congrArg (Value.int .i64) (wrap_i64 h93.1 h93.2)) hs92 ?_
 refine any_step 4 (by kernel_rfl) (by kernel_rfl) ?_
 have hs96 := St.f2 hs86
 refine zT 0 [(zi (p18 + r82))] [(zi (p18 + r82))] hs96 fun w94 hs97 => ?_
 have hs98 := St.f2 hs97
 have hs99 := St.f2 hs98
 have hs100 := St.tk2 hs99
 refine ops_done (by kernel_rfl) ⟨hs100, ?_⟩
 refine any_done (by kernel_rfl) ?_
 refine normal_block ?_
 have hs101 := St.f2 hs97
 have hs102 := St.f2 hs101
 rw [hc14] at hm
 exact ⟨(p18 + r82), hm, hs102⟩
end Go.Proofs.YtmmclabkkigiaaaGreatDoor

set_option maxRecDepth 20000
namespace Go.Proofs.YtmmclabkkigiaaaGreatDoor
open Go Go.RowKit
theorem tz64_spec {x : Int} (B : Nat) (w : World) (hx : 0 ≤ x ∧ x < 18446744073709551616) (hT : CellsAt (some ⟨1, 0, none⟩) tab8 w) : Spec Tryz.prog 158 #[(zu x)] B w [] (fun v H' => v = .int .i64 (Lib.ctz 64 x.toNat : Int) ∧ H' = []) := by
 refine spec_Q Tryz.func158 rfl fun hs => ?_
 refine W.sr fun K1 hK1 => ?_
 refine zE 1 (hK1 _ _ ?_)
 refine W.seq fun K2 hK2 => ?_
 refine W.sr fun K3 hK3 => ?_
 refine zE 2 (hK3 _ _ ?_)
 refine W.cond (decide (x = 0)) (by kernel_rfl) (fun h4 => ?_) (fun h4 => ?_)
 ·
  have h4p := of_decide_eq_true h4
  refine W.sr fun K5 hK5 => ?_
  refine zE 1 (hK5 _ _ ?_)
  refine W.ret (ret_seq ?_)
  have e_ : x = 0 := by omega
  subst e_
  refine ret_of (zi 64) (by kernel_rfl) ⟨_, ⟨rfl, rfl⟩, hs⟩
 have h4p := of_decide_eq_false h4
 refine W.skip ?_
 refine hK2 _ _ ?_
 refine W.sr fun K6 hK6 => ?_
 refine zR 4 ?_
 obtain ⟨y, hy⟩ : ∃ y, bits .and .u64 x (IntKind.u64.wrap (0 - x)) = y := ⟨_, rfl⟩
 refine ops_set 8 (v := .int .u64 y) (Eq.trans (by kernel_rfl) (congrArg (Value.int .u64) hy)) ?_
 refine ops_val (v := .int .u64 (IntKind.u64.wrap (y * 285870213051353865))) (v' := .int .u64 ((y * 285870213051353865) % 18446744073709551616)) (by kernel_rfl) (congrArg (Value.int .u64) (wrap_u64_mod _)) ?_
 refine zR 1 ?_
 have h7 : ¬ (x = 0) := by omega
 obtain ⟨k, hk, hz, hc⟩ := tz_at hx h7 hy
 refine ops_R (runs_indexA (ad := ⟨1, 0, none⟩) (n := 64) (z := (shrK .u64 ((y * 285870213051353865) % 18446744073709551616) 58)) (size := 1) k hz hk (by kernel_rfl)) ?_
 have hl : w.cell? (Addr.add ⟨1, 0, none⟩ (k * 1)) = some (.int .u8 (Lib.ctz 64 x.toNat : Int)) := by rw [Nat.mul_one]; exact hT k _ hc
 refine zL (Addr.add ⟨1, 0, none⟩ (k * 1)) (.int .u8 (Lib.ctz 64 x.toNat : Int)) hl ?_
 have hc9 := ctz_le hx h7
 have h8 : -9223372036854775808 ≤ (Lib.ctz 64 x.toNat : Int) ∧ (Lib.ctz 64 x.toNat : Int) ≤ 9223372036854775807 := by omega
 refine zI _ (wrap_i64 h8.1 h8.2) ?_
 refine zE 1 (hK6 _ _ ?_)
 refine W.ret ?_
 refine ret_of (zi (Lib.ctz 64 x.toNat : Int)) (by kernel_rfl) ⟨_, ⟨rfl, rfl⟩, hs⟩
end Go.Proofs.YtmmclabkkigiaaaGreatDoor

set_option maxRecDepth 20000
set_option maxHeartbeats 2000000
namespace Go.Proofs.YtmmclabkkigiaaaGreatDoor
open Go Go.RowKit
def mclear_D26  : Option (Int × Bool) :=
 some (0, false)
def mclear_X26 (p27 : Int) : Option (Int × Bool) :=
 some (p27, true)
def mclear_J4 (c20 : Unit → Option (Int × Bool)) (r87 : Int) (p89 : Bool) : Option (Int × Bool) :=
 if p89 = true then (mclear_X26 r87) else (c20 ())
def mclear_R26 (img : List Int) (l : List (Int × Int)) (at_ : Int) (many : Int) (k19 : Nat) (c20 : Unit → Option (Int × Bool)) : Option (Int × Bool) :=
 (some (mwordAt img l at_ many k19)).bind fun r77 =>
need (0 ≤ (bits .xor .u64 18446744073709551615 r77) ∧ (bits .xor .u64 18446744073709551615 r77) < 18446744073709551616) <|
need (-9223372036854775808 ≤ ((64 * (k19 : Int)) + (Lib.ctz 64 (bits .xor .u64 18446744073709551615 r77).toNat : Int)) ∧ ((64 * (k19 : Int)) + (Lib.ctz 64 (bits .xor .u64 18446744073709551615 r77).toNat : Int)) ≤ 9223372036854775807) <|
(some ((64 * (k19 : Int)) + (Lib.ctz 64 (bits .xor .u64 18446744073709551615 r77).toNat : Int))).bind fun r87 =>
need (-9223372036854775808 ≤ ((64 * (k19 : Int)) + 64) ∧ ((64 * (k19 : Int)) + 64) ≤ 9223372036854775807) <|
if r87 < ((64 * (k19 : Int)) + 64) then (mclear_J4 c20 r87 (decide (r87 < many))) else (mclear_J4 c20 r87 false)
def mclear_M (img : List Int) (l : List (Int × Int)) (at_ : Int) (many : Int) : Option (Int × Bool) :=
 need ((0 ≤ at_ ∧ at_ ≤ 1000000000000) ∧ (1 ≤ many ∧ many ≤ 1000000000000)) <|
rounds (fun k_ c_ s_ => mclear_R26 img l at_ many k_ c_) (fun s_ => mclear_D26) (nWords many) 0 ()
theorem mclear_walk {img : List Int} {l : List (Int × Int)} {at_ : Int} {many : Int} {mb vb : Nat} {r : Int × Bool} (B : Nat) (w : World) (hmb : w.heap[mb]? = some (.cells [(zp vb), (zi at_), (zi many)].toArray 213 (0, 0))) (hv : ViewAt (ptr vb) img l w) (hT : CellsAt (some ⟨1, 0, none⟩) tab8 w) (hm : mclear_M img l at_ many = some r) : Spec Tryz.prog 153 #[(zp mb)] B w [] (fun v H' => v = .tuple #[.int .i64 r.1, .bool r.2] ∧ H' = []) := by
 refine spec_K Tryz.func153 rfl fun B' hB' hs => ?_
 unfold mclear_M at hm
 refine W.sr fun K1 hK1 => ?_
 refine zN [(zp mb)] 202 hs fun b4 w2 hs3 => ?_
 refine zN [(zi 0)] 3 hs3 fun b7 w5 hs6 => ?_
 refine zN [(.bool false)] 4 hs6 fun b10 w8 hs9 => ?_
 refine zD (hK1 _ _ ?_)
 refine W.seq fun K11 hK11 => ?_
 refine W.sr fun K12 hK12 => ?_
 refine zL ⟨b4, 0, none⟩ (zp mb) (hs9.cellAt 2 rfl rfl) ?_
 refine ops_call0 hs9 (by kernel_rfl) (words_spec (mp := (some ⟨mb, 0, none⟩)) B' _) ?_
 rintro _ _ w14 ⟨b13, rfl, rfl⟩ hs15
 have hs16 := St.ap1 hs15
 refine zD (hK12 _ _ ?_)
 refine W.block ?_
 obtain ⟨h17, hm⟩ := need_some hm
 refine W.norm (n := 29) (l := [(1, (zp b4)), (2, (zp b7)), (3, (zp b10)), (8, (.func (.func 157) #[] #[(zp b13)]))]) (by kernel_rfl) (fun us18 => ?_)
 have hs21 := St.f3 hs16
 have hs22 := St.f3 hs21
 have hs23 := St.f3 hs22
 have hs24 := St.f3 hs23
 have hs25 := St.f4 hs24
 have hs32 := hs25.keep2
 have hs33 := St.f5 hs32
 have hs34 := St.f5 hs33
 have hs35 := St.f5 hs34
 have hs36 := St.f4 hs35
 have hs37 := St.f5 hs36
 have hs38 := St.f5 hs37
 have hF39 : rounds (fun k_ c_ s_ => mclear_R26 img l at_ many k_ c_) (fun s_ => mclear_D26) ((nWords many) - 0) 0 () = some r := by rw [Nat.sub_zero]; exact hm
 clear hm
 refine W.roundsA (G := Unit) (GZ := Int) (gf := 157) (lb := #[(zp b13)]) (nWords many) (fun k_ _ => rounds (fun k_ c_ s_ => mclear_R26 img l at_ many k_ c_) (fun s_ => mclear_D26) ((nWords many) - k_) k_ () = some r) (fun _ => [keepA w, zb b10 4 [(.bool false)], zb b7 3 [(zi 0)], zb b4 202 [(zp mb)]]) .ret (fun p27 => mclear_X26 p27 = some r) (fun p27 => [keepA w, zb b10 4 [(.bool true)], zb b7 3 [(zi p27)], zb b4 202 [(zp mb)]]) [keepA w, zb b13 202 [(zp mb)]] (fun k_ => #[(zi (64 * (k_ : Int))), (zu (mwordAt img l at_ many k_))]) (fun k_ l_ => slotsD 29 ((10, (zu (mwordAt img l at_ many k_))) :: (9, (zi (64 * (k_ : Int)))) :: [(1, (zp b4)), (2, (zp b7)), (3, (zp b10)), (8, (.func (.func 157) #[] #[(zp b13)]))]) us18 (some l_) []) () hF39 hs38 rfl (by kernel_rfl) (fun _ _ => by kernel_rfl) (fun _ => rfl) (fun a_ k_ l_ h1_ h2_ => ⟨rel_round2 (n := 29) (by decide) (by decide) h1_ h2_, rfl⟩) (fun l_ => #[.func (.yield l_) #[] #[], (zp b13)]) (fun _ => rfl) (fun l_ w_ Y_ Z_ hy_ => words1_spec (yl := l_) (w00 := w) (Y := Y_) (Z := Z_) (hM := h17) (hmb := hmb) (hv := hv) (hy := fun k_ h_ w_ => hy_ k_ (by unfold nWords; omega) w_) _ w_) ?_ ?_ ?_
 rotate_left
 ·
  rintro D31 w40 _ hF42 hs41
  replace hF42 : rounds (fun k_ c_ s_ => mclear_R26 img l at_ many k_ c_) (fun s_ => mclear_D26) ((nWords many) - (nWords many)) (nWords many) () = some r := hF42
  rw [rounds_end] at hF42
  have hm : mclear_D26 = some r := hF42
  clear hF42
  unfold mclear_D26 at hm
  have hs43 : St B' w [] w40 [blk D31 (.deferred (some [])), keepA w, zb b13 202 [(zp mb)], keepA w, zb b10 4 [(.bool false)], zb b7 3 [(zi 0)], zb b4 202 [(zp mb)]] := hs41
  refine normal_block ?_
  refine hK11 _ _ ?_
  refine W.sr fun K44 hK44 => ?_
  have hs47 := St.f5 hs43
  refine zT 0 [(zi 0)] [(zi 0)] hs47 fun w45 hs48 => ?_
  have hs51 := St.f5 hs48
  refine zT 0 [(.bool false)] [(.bool false)] hs51 fun w49 hs52 => ?_
  refine zD (hK44 _ _ ?_)
  refine W.ret ?_
  obtain rfl := some_inj hm
  have hs53 := St.f6 hs52
  have hs54 := St.f4 hs53
  have hs55 := St.f5 hs54
  have hs56 := St.f1 hs55
  have hs57 := St.f4 hs56
  have hs58 := St.f4 hs57
  have hs59 := St.f5 hs58
  refine leave_mark (D := D31) (v := (.tuple #[(zi 0), (.bool false)])) hs59 (by kernel_rfl) (fun w60 hs61 => (resD_two rfl (.cell (ad := ⟨b7, 0, none⟩) (by kernel_rfl) (by kernel_rfl) (hs61.cellAt 1 rfl rfl)) (.cell (ad := ⟨b10, 0, none⟩) (by kernel_rfl) (by kernel_rfl) (hs61.cellAt 0 rfl rfl)))) (fun w60 hs61 => ?_)
  have hs62 := St.tk0 hs61
  exact ⟨rfl, hs62⟩
 ·
  rintro D65 w63 p27 hm hs64
  replace hm : mclear_X26 p27 = some r := hm
  unfold mclear_X26 at hm
  have hs66 : St B' w [] w63 [blk D65 (.deferred (some [])), keepA w, zb b13 202 [(zp mb)], keepA w, zb b10 4 [(.bool true)], zb b7 3 [(zi p27)], zb b4 202 [(zp mb)]] := hs64
  refine W.ret (ret_block (ret_seq ?_))
  obtain rfl := some_inj hm
  refine leave_mark (D := D65) (v := (.tuple #[(zi p27), (.bool true)])) hs66 (by kernel_rfl) (fun w67 hs68 => (resD_two rfl (.cell (ad := ⟨b7, 0, none⟩) (by kernel_rfl) (by kernel_rfl) (hs68.cellAt 4 rfl rfl)) (.cell (ad := ⟨b10, 0, none⟩) (by kernel_rfl) (by kernel_rfl) (hs68.cellAt 3 rfl rfl)))) (fun w67 hs68 => ?_)
  have hs69 := St.tk0 hs68
  exact ⟨rfl, hs69⟩
 rintro k19 hk70 rc29 l28 w71 _ hF75 lf72 hs73 K74 hK74
 replace hF75 : rounds (fun k_ c_ s_ => mclear_R26 img l at_ many k_ c_) (fun s_ => mclear_D26) ((nWords many) - k19) k19 () = some r := hF75
 rw [rounds_at hk70] at hF75
 obtain ⟨c20, hc20⟩ : ∃ c_, c_ = rounds (fun k_ c_ s_ => mclear_R26 img l at_ many k_ c_) (fun s_ => mclear_D26) ((nWords many) - (k19 + 1)) (k19 + 1) := ⟨_, rfl⟩
 rw [← hc20] at hF75
 have hm : mclear_R26 img l at_ many k19 c20 = some r := hF75
 clear hF75
 unfold mclear_R26 at hm
 refine W.sr fun K76 hK76 => ?_
 refine zE 1 (hK76 _ _ ?_)
 refine W.region ?_
 refine zR 1 ?_
 obtain ⟨r77, h78, hm⟩ := bind_some hm
 replace h78 := some_inj h78
 refine ops_set 5 (v := .int .u64 r77) (Eq.trans (by kernel_rfl) (congrArg (Value.int .u64) h78)) ?_
 refine zD ?_
 refine hK74 _ _ hs73 (fun w79 hs80 => ?_)
 refine W.block ?_
 refine W.sr fun K81 hK81 => ?_
 refine zR 3 ?_
 obtain ⟨h82, hm⟩ := need_some hm
 refine zC00 hs80 (tz64_spec (x := (bits .xor .u64 18446744073709551615 r77)) (hx := h82) (hT := ((St.kept hs80 1 rfl).cells hT)) B' _) fun w83 hs85 => ?_
 obtain ⟨h86, hm⟩ := need_some hm
 refine zI _ (wrap_i64 h86.1 h86.2) ?_
 refine zR 1 ?_
 obtain ⟨r87, h88, hm⟩ := bind_some hm
 replace h88 := some_inj h88
 refine ops_set 6 (v := .int .i64 r87) (Eq.trans (by kernel_rfl) (congrArg (Value.int .i64) h88)) ?_
 refine zD (hK81 _ _ ?_)
 refine W.seq_join (fun s_ w_ => ∃ (p89 : Bool), (∃ us, s_ = slotsD 29 [(2, (zp b7)), (3, (zp b10)), (6, (zi r87)), (27, (.bool p89))] us (some l28) []) ∧ St B' w71 lf72 w_ [zb b7 3 [(zi 0)], zb b10 4 [(.bool false)], blk l28 (.loop { rc29 with state := .busy }), keepA w, zb b4 202 [(zp mb)]] ∧ mclear_J4 c20 r87 p89 = some r) ?_ ?_
 ·
  rintro _ w90 ⟨p89, ⟨us, rfl⟩, hs91, hm⟩
  unfold mclear_J4 at hm
  refine W.cond p89 (by kernel_rfl) (fun h92 => ?_) (fun h92 => ?_)
  ·
   have h92p : p89 = true := h92
   replace hm := ite_yes hm h92p
   refine W.sr fun K93 hK93 => ?_
   refine zR 1 ?_
   refine zT 0 [(zi r87)] [(zi r87)] hs91 fun w94 hs96 => ?_
   have hs99 := St.f1 hs96
   refine zT 0 [(.bool true)] [(.bool true)] hs99 fun w97 hs100 => ?_
   refine zD (hK93 _ _ ?_)
   refine W.ret (ret_block ?_)
   have hs101 := St.f4 hs100
   have hs102 := St.f2 hs101
   have hs103 := St.f2 hs102
   have hs104 := St.f4 hs103
   have hs105 := St.f4 hs104
   exact ⟨rfl, r87, hm, hs105⟩
  have h92p : ¬ (p89 = true) := ne_true_of_eq_false h92
  replace hm := ite_no hm h92p
  refine W.skip ?_
  refine normal_block ?_
  have hs106 := St.f4 hs91
  have hs107 := St.f1 hs106
  have hs108 := St.f2 hs107
  have hs109 := St.f4 hs108
  have hs110 := St.f4 hs109
  rw [hc20] at hm
  exact ⟨(), hm, hs110⟩
 refine W.region ?_
 refine zR 2 ?_
 obtain ⟨h111, hm⟩ := need_some hm
 refine zI _ (wrap_i64 h111.1 h111.2) ?_
 refine zR 2 ?_
 rcases Bool.eq_false_or_eq_true (decide (r87 < ((64 * (k19 : Int)) + 64))) with h112 | h112
 ·
  obtain ⟨h112p, hm⟩ := iY hm h112
  refine zS 20 h112 ?_
  refine zS 19 h112 ?_
  refine zR 1 ?_
  refine zL ⟨b4, 0, none⟩ (zp mb) (hs85.cellAt 4 rfl rfl) ?_
  refine zR 2 ?_
  refine zL ⟨mb, 2, none⟩ (zi many) (cell_of_blk ((St.kept hs85 1 rfl).blk hmb) rfl) ?_
  refine zE 2 ?_
  have hs113 := St.f4 hs85
  have hs114 := St.f2 hs113
  have hs115 := St.f2 hs114
  have hs116 := St.f3 hs115
  have hs117 := St.f4 hs116
  exact ⟨(decide (r87 < many)), slotsD_intro _ (by kernel_rfl), hs117, hm⟩
 obtain ⟨h112p, hm⟩ := iN hm h112
 refine zS 20 h112 ?_
 refine zS 19 h112 ?_
 refine zE 7 ?_
 have hs118 := St.f4 hs85
 have hs119 := St.f2 hs118
 have hs120 := St.f2 hs119
 have hs121 := St.f3 hs120
 have hs122 := St.f4 hs121
 exact ⟨false, slotsD_intro _ (by kernel_rfl), hs122, hm⟩
end Go.Proofs.YtmmclabkkigiaaaGreatDoor

set_option maxRecDepth 20000
namespace Go.Proofs.YtmmclabkkigiaaaGreatDoor
open Go Go.RowKit
def mget_M (img : List Int) (l : List (Int × Int)) (at_ : Int) (many : Int) (i_ : Int) : Option (Bool) :=
 if 0 ≤ i_ ∧ i_ < many then (need (0 ≤ i_ ∧ i_ ≤ 1000000000000 ∧ 0 ≤ at_ ∧ at_ ≤ 1000000000000) <|
some (!decide ((bits .and .u64 (vget img l (at_ + i_ / 64)) (2 ^ (i_ % 64).toNat)) = 0))) else (some false)
theorem mget_walk {img : List Int} {l : List (Int × Int)} {at_ : Int} {many : Int} {i_ : Int} {mb vb : Nat} {r : Bool} (B : Nat) (w : World) (hmb : w.heap[mb]? = some (.cells [(zp vb), (zi at_), (zi many)].toArray 213 (0, 0))) (hv : ViewAt (ptr vb) img l w) (hm : mget_M img l at_ many i_ = some r) : Spec Tryz.prog 148 #[(zp mb), (zi i_)] B w [] (fun v H' => v = .bool r ∧ H' = []) := by
 refine spec_Q Tryz.func148 rfl fun hs => ?_
 unfold mget_M at hm
 refine W.sr fun K1 hK1 => ?_
 refine zE 1 (hK1 _ _ ?_)
 refine W.seq fun K2 hK2 => ?_
 refine W.sr fun K3 hK3 => ?_
 refine zR 2 ?_
 refine zC00 hs (mhas_spec (i_ := i_) (hmb := (hs.old hmb)) (hv := (viewAt_old hs hv)) B _) fun w4 hs6 => ?_
 refine zE 1 (hK3 _ _ ?_)
 refine W.cond (!(decide (0 ≤ i_ ∧ i_ < many))) (by kernel_rfl) (fun h7 => ?_) (fun h7 => ?_)
 rotate_left
 ·
  have h7p : 0 ≤ i_ ∧ i_ < many := of_decide_eq_true (bnot_false h7)
  replace hm := ite_yes hm h7p
  refine W.skip ?_
  refine hK2 _ _ ?_
  refine W.sr fun K8 hK8 => ?_
  refine zR 2 ?_
  obtain ⟨h9, hm⟩ := need_some hm
  refine zC00 hs6 (mword_spec (i_ := i_) (hq := h9) (hmb := (hs6.old hmb)) (hv := (viewAt_old hs6 hv)) B _) fun w10 hs12 => ?_
  refine zE 5 (hK8 _ _ ?_)
  refine W.sr fun K13 hK13 => ?_
  refine zR 3 ?_
  refine zL ⟨mb, 0, none⟩ (zp vb) (cell_of_blk (hs12.old hmb) rfl) ?_
  refine zR 1 ?_
  refine zC00 hs12 (get_spec (at_ := (at_ + i_ / 64)) (hv := (viewAt_old hs12 hv)) B _) fun w14 hs16 => ?_
  refine zE 4 (hK13 _ _ ?_)
  refine W.ret ?_
  obtain rfl := some_inj hm
  refine ret_of (.bool (!decide ((bits .and .u64 (vget img l (at_ + i_ / 64)) (2 ^ (i_ % 64).toNat)) = 0))) (by kernel_rfl) ⟨_, ⟨rfl, rfl⟩, hs16⟩
 have h7p : ¬ (0 ≤ i_ ∧ i_ < many) := of_decide_eq_false (bnot_true h7)
 replace hm := ite_no hm h7p
 refine W.sr fun K17 hK17 => ?_
 refine zE 1 (hK17 _ _ ?_)
 refine W.ret (ret_seq ?_)
 obtain rfl := some_inj hm
 refine ret_of (.bool false) (by kernel_rfl) ⟨_, ⟨rfl, rfl⟩, hs6⟩
def mset_J1 (img : List Int) (l : List (Int × Int)) (at_ : Int) (i_ : Int) (p21 : Int) : Option (Int × List (Int × Int)) :=
 (some (vput img l (at_ + i_ / 64) p21)).bind fun r25 =>
some (r25.1, r25.2)
def mset_M (img : List Int) (l : List (Int × Int)) (at_ : Int) (many : Int) (i_ : Int) (is_ : Bool) : Option (Int × List (Int × Int)) :=
 if 0 ≤ i_ ∧ i_ < many then (need (0 ≤ i_ ∧ i_ ≤ 1000000000000 ∧ 0 ≤ at_ ∧ at_ ≤ 1000000000000) <|
(some (bits .andNot .u64 (vget img l (at_ + i_ / 64)) (2 ^ (i_ % 64).toNat))).bind fun r19 =>
if is_ = true then ((some (bits .or .u64 r19 (2 ^ (i_ % 64).toNat))).bind fun r35 =>
mset_J1 img l at_ i_ r35) else (mset_J1 img l at_ i_ r19)) else (some (8, l))
theorem mset_walk {img : List Int} {l : List (Int × Int)} {at_ : Int} {many : Int} {i_ : Int} {is_ : Bool} {mb vb : Nat} {r : Int × List (Int × Int)} (B : Nat) (w : World) (hm : mset_M img l at_ many i_ is_ = some r) : Spec Tryz.prog 149 #[(zp mb), (zi i_), (.bool is_)] B w [zb mb 213 [(zp vb), (zi at_), (zi many)], viewA (ptr vb) img l] (fun v H' => v = .int .i64 r.1 ∧ H' = [zb mb 213 [(zp vb), (zi at_), (zi many)], viewA (ptr vb) img r.2]) := by
 refine spec_W Tryz.func149 rfl fun l0 hs => ?_
 unfold mset_M at hm
 refine W.sr fun K1 hK1 => ?_
 refine zE 1 (hK1 _ _ ?_)
 refine W.seq fun K2 hK2 => ?_
 refine W.sr fun K3 hK3 => ?_
 refine zE 2 (hK3 _ _ ?_)
 refine W.cond_false false (by kernel_rfl) rfl ?_
 refine W.skip ?_
 refine hK2 _ _ ?_
 refine W.seq fun K4 hK4 => ?_
 refine W.sr fun K5 hK5 => ?_
 refine zR 2 ?_
 refine zC00 hs (mhas_spec (i_ := i_) (hmb := (hs.heapAt 0 rfl)) (hv := (hs.entAt 1 rfl viewA_at)) B _) fun w6 hs8 => ?_
 refine zE 1 (hK5 _ _ ?_)
 refine W.cond (!(decide (0 ≤ i_ ∧ i_ < many))) (by kernel_rfl) (fun h9 => ?_) (fun h9 => ?_)
 rotate_left
 ·
  have h9p : 0 ≤ i_ ∧ i_ < many := of_decide_eq_true (bnot_false h9)
  replace hm := ite_yes hm h9p
  refine W.skip ?_
  refine hK4 _ _ ?_
  refine W.sr fun K10 hK10 => ?_
  refine zR 2 ?_
  obtain ⟨h11, hm⟩ := need_some hm
  refine zC00 hs8 (mword_spec (i_ := i_) (hq := h11) (hmb := (hs8.heapAt 0 rfl)) (hv := (hs8.entAt 1 rfl viewA_at)) B _) fun w12 hs14 => ?_
  refine zE 5 (hK10 _ _ ?_)
  refine W.sr fun K15 hK15 => ?_
  refine zR 3 ?_
  refine zL ⟨mb, 0, none⟩ (zp vb) (hs14.cellAt 0 rfl rfl) ?_
  refine zR 1 ?_
  refine zC00 hs14 (get_spec (at_ := (at_ + i_ / 64)) (hv := (hs14.entAt 1 rfl viewA_at)) B _) fun w16 hs18 => ?_
  refine zR 3 ?_
  obtain ⟨r19, h20, hm⟩ := bind_some hm
  replace h20 := some_inj h20
  refine ops_set 9 (v := .int .u64 r19) (Eq.trans (by kernel_rfl) (congrArg (Value.int .u64) h20)) ?_
  refine zD (hK15 _ _ ?_)
  refine W.seq_join (fun s_ w_ => ∃ (p21 : Int), (∃ us, s_ = slots 41 [(0, (zp mb)), (7, (zi (at_ + i_ / 64))), (9, (zu p21))] us) ∧ St B w l0 w_ [viewA (ptr vb) img l, zb mb 213 [(zp vb), (zi at_), (zi many)]] ∧ mset_J1 img l at_ i_ p21 = some r) ?_ ?_
  ·
   rintro _ w22 ⟨p21, ⟨us, rfl⟩, hs23, hm⟩
   unfold mset_J1 at hm
   refine W.sr fun K24 hK24 => ?_
   refine zR 3 ?_
   refine zL ⟨mb, 0, none⟩ (zp vb) (hs23.cellAt 1 rfl rfl) ?_
   refine zR 2 ?_
   obtain ⟨r25, h26, hm⟩ := bind_some hm
   replace h26 := some_inj h26
   refine ops_call1 hs23 (by kernel_rfl) (put_spec (p := (zp vb)) (img := img) (l := l) (at_ := (at_ + i_ / 64)) (x_ := p21) B _) ?_
   rintro _ _ w29 ⟨hv27, hH28⟩ hs30
   rw [h26] at hv27
   try rw [h26] at hH28
   subst hv27 hH28
   have hs31 := St.ap1 hs30
   refine zE 1 (hK24 _ _ ?_)
   refine W.ret ?_
   obtain rfl := some_inj hm
   have hs32 := St.f1 hs31
   refine ret_of (zi r25.1) (by kernel_rfl) ⟨_, ⟨rfl, rfl⟩, hs32⟩
  refine W.sr fun K33 hK33 => ?_
  refine zE 1 (hK33 _ _ ?_)
  refine W.cond is_ (by kernel_rfl) (fun h34 => ?_) (fun h34 => ?_)
  ·
   have h34p : is_ = true := h34
   replace hm := ite_yes hm h34p
   refine W.region ?_
   refine zR 4 ?_
   obtain ⟨r35, h36, hm⟩ := bind_some hm
   replace h36 := some_inj h36
   refine ops_set 9 (v := .int .u64 r35) (Eq.trans (by kernel_rfl) (congrArg (Value.int .u64) h36)) ?_
   refine zD ?_
   have hs37 := St.f1 hs18
   exact ⟨r35, slots_intro _ (by kernel_rfl), hs37, hm⟩
  have h34p : ¬ (is_ = true) := ne_true_of_eq_false h34
  replace hm := ite_no hm h34p
  refine W.skip ?_
  have hs38 := St.f1 hs18
  exact ⟨r19, slots_intro _ (by kernel_rfl), hs38, hm⟩
 have h9p : ¬ (0 ≤ i_ ∧ i_ < many) := of_decide_eq_false (bnot_true h9)
 replace hm := ite_no hm h9p
 refine W.sr fun K39 hK39 => ?_
 refine zE 1 (hK39 _ _ ?_)
 refine W.ret (ret_seq ?_)
 obtain rfl := some_inj hm
 refine ret_of (zi 8) (by kernel_rfl) ⟨_, ⟨rfl, rfl⟩, hs8⟩
end Go.Proofs.YtmmclabkkigiaaaGreatDoor

namespace Go.Proofs.YtmmclabkkigiaaaGreatDoor
open Go Go.RowKit
def bitI (v : Int) (j : Nat) : Bool := v.toNat.testBit j
theorem bitI_out {v : Int} {j : Nat} (h : U64 v) (hj : 64 ≤ j) : bitI v j = false := by
  have hl : v.toNat < 2 ^ 64 := by unfold U64 at h; omega
  exact Nat.testBit_lt_two_pow (Nat.lt_of_lt_of_le hl (Nat.pow_le_pow_right (by omega) hj))
theorem bitI_ext {x y : Int} (hx : U64 x) (hy : U64 y) (h : ∀ j, j < 64 → bitI x j = bitI y j) : x = y := by
  have e : x.toNat = y.toNat := Nat.eq_of_testBit_eq fun j => by
    by_cases hj : j < 64
    · exact h j hj
    · exact (bitI_out hx (by omega)).trans (bitI_out hy (by omega)).symm
  unfold U64 at hx hy
  omega
theorem ofInt_of {x : Int} (h : U64 x) : BitVec.ofInt 64 x = BitVec.ofNat 64 x.toNat := by
  obtain ⟨n, rfl⟩ := Int.eq_ofNat_of_zero_le h.1
  simp
theorem bits_of {op : BinOp} {x y : Int} (hx : U64 x) (hy : U64 y) : bits op .u64 x y = (((match op with
    | .and => BitVec.ofNat 64 x.toNat &&& BitVec.ofNat 64 y.toNat
    | .or => BitVec.ofNat 64 x.toNat ||| BitVec.ofNat 64 y.toNat
    | .xor => BitVec.ofNat 64 x.toNat ^^^ BitVec.ofNat 64 y.toNat
    | _ => BitVec.ofNat 64 x.toNat &&& ~~~(BitVec.ofNat 64 y.toNat)) : BitVec 64).toNat : Int) := by
  unfold bits
  rw [show IntKind.u64.bits = 64 from rfl]
  simp only [ofInt_of hx, ofInt_of hy]
  have h : ∀ b : BitVec 64, IntKind.u64.wrap (b.toNat : Int) = (b.toNat : Int) := fun b => wrap_u64 (Int.natCast_nonneg _) (Int.ofNat_lt.2 b.isLt)
  exact h _
theorem bits_u64 {op : BinOp} {x y : Int} (hx : U64 x) (hy : U64 y) : U64 (bits op .u64 x y) := by
  rw [bits_of hx hy]
  exact ⟨Int.natCast_nonneg _, Int.ofNat_lt.2 (BitVec.isLt _)⟩
theorem bitI_cast (b : BitVec 64) (j : Nat) : bitI (b.toNat : Int) j = b.getLsbD j := by
  unfold bitI
  rw [Int.toNat_natCast]
  exact BitVec.testBit_toNat b
theorem lsb_of {x : Int} {j : Nat} (hx : U64 x) : (BitVec.ofNat 64 x.toNat).getLsbD j = bitI x j := by
  rw [BitVec.getLsbD_ofNat]
  by_cases hj : j < 64
  · simp [hj, bitI]
  · have := bitI_out (j := j) hx (by omega)
    simp [hj, this]
theorem bitI_and {x y : Int} {j : Nat} (hx : U64 x) (hy : U64 y) : bitI (bits .and .u64 x y) j = (bitI x j && bitI y j) := by
  rw [bits_of hx hy, bitI_cast, BitVec.getLsbD_and, lsb_of hx, lsb_of hy]
theorem bitI_or {x y : Int} {j : Nat} (hx : U64 x) (hy : U64 y) : bitI (bits .or .u64 x y) j = (bitI x j || bitI y j) := by
  rw [bits_of hx hy, bitI_cast, BitVec.getLsbD_or, lsb_of hx, lsb_of hy]
theorem bitI_xor {x y : Int} {j : Nat} (hx : U64 x) (hy : U64 y) : bitI (bits .xor .u64 x y) j = (bitI x j ^^ bitI y j) := by
  rw [bits_of hx hy, bitI_cast, BitVec.getLsbD_xor, lsb_of hx, lsb_of hy]
theorem bitI_andNot {x y : Int} {j : Nat} (hx : U64 x) (hy : U64 y) : bitI (bits .andNot .u64 x y) j = (bitI x j && !bitI y j) := by
  rw [bits_of hx hy, bitI_cast, BitVec.getLsbD_and, BitVec.getLsbD_not, lsb_of hx, lsb_of hy]
  by_cases hj : j < 64
  · simp [hj]
  · have := bitI_out (j := j) hx (by omega)
    simp [this]
theorem pow_u64 {j : Nat} (h : j < 64) : U64 (2 ^ j) := by
  have h1 : (2 : Nat) ^ j < 2 ^ 64 := Nat.pow_lt_pow_right (by omega) h
  have h2 : ((2 ^ j : Nat) : Int) = 2 ^ j := by simp
  rw [← h2]
  exact ⟨Int.natCast_nonneg _, Int.ofNat_lt.2 h1⟩
theorem bitI_pow {j t : Nat} : bitI (2 ^ j) t = decide (j = t) := by
  have h2 : ((2 ^ j : Nat) : Int) = 2 ^ j := by simp
  unfold bitI
  rw [← h2, Int.toNat_natCast, Nat.testBit_two_pow]
theorem bitI_zero {j : Nat} : bitI 0 j = false := by simp [bitI]
def setb (v : Int) (j : Nat) (b : Bool) : Int := if b = true then bits .or .u64 v (2 ^ j) else bits .andNot .u64 v (2 ^ j)
theorem setb_u64 {v : Int} {j : Nat} {b : Bool} (hv : U64 v) (hj : j < 64) : U64 (setb v j b) := by
  unfold setb
  split <;> exact bits_u64 hv (pow_u64 hj)
theorem bitI_setb {v : Int} {j t : Nat} {b : Bool} (hv : U64 v) (hj : j < 64) : bitI (setb v j b) t = if t = j then b else bitI v t := by
  unfold setb
  cases b
  · rw [if_neg (by decide), bitI_andNot hv (pow_u64 hj), bitI_pow]
    by_cases h : t = j
    · subst h; simp
    · rw [if_neg h]; simp [show ¬ j = t from fun e => h e.symm]
  · rw [if_pos rfl, bitI_or hv (pow_u64 hj), bitI_pow]
    by_cases h : t = j
    · subst h; simp
    · rw [if_neg h]; simp [show ¬ j = t from fun e => h e.symm]
theorem setb_ins {v : Int} {j : Nat} (hv : U64 v) (hj : j < 64) : bits .or .u64 (bits .andNot .u64 v (2 ^ j)) (2 ^ j) = setb v j true := by
  have h1 := bits_u64 (op := .andNot) hv (pow_u64 hj)
  refine bitI_ext (bits_u64 h1 (pow_u64 hj)) (setb_u64 hv hj) fun t ht => ?_
  rw [bitI_setb hv hj, bitI_or h1 (pow_u64 hj), bitI_andNot hv (pow_u64 hj), bitI_pow]
  by_cases h : t = j
  · subst h; simp
  · rw [if_neg h]; simp [show ¬ j = t from fun e => h e.symm]
theorem and_pow_zero {v : Int} {j : Nat} (hv : U64 v) (hj : j < 64) : (!decide (bits .and .u64 v (2 ^ j) = 0)) = bitI v j := by
  by_cases h : bitI v j = true
  · rw [h]
    have : ¬ bits .and .u64 v (2 ^ j) = 0 := fun e => by
      have h2 := congrArg (fun x => bitI x j) e
      simp only [bitI_and hv (pow_u64 hj), bitI_pow, h, bitI_zero] at h2
      simp at h2
    simp [this]
  · have h' : bitI v j = false := by simpa using h
    rw [h']
    have : bits .and .u64 v (2 ^ j) = 0 := by
      refine bitI_ext (bits_u64 hv (pow_u64 hj)) u64_zero fun t ht => ?_
      rw [bitI_and hv (pow_u64 hj), bitI_pow, bitI_zero]
      by_cases e : j = t
      · subst e; simp [h']
      · simp [e]
    simp [this]
def cnt (f : Nat → Bool) : Nat → Nat
  | 0 => 0
  | n + 1 => cnt f n + (if f n = true then 1 else 0)
theorem cnt_le (f : Nat → Bool) : ∀ n, cnt f n ≤ n
  | 0 => Nat.le_refl _
  | n + 1 => by have := cnt_le f n; unfold cnt; split <;> omega
theorem cnt_congr {f g : Nat → Bool} : ∀ {n : Nat}, (∀ i, i < n → f i = g i) → cnt f n = cnt g n
  | 0, _ => rfl
  | n + 1, h => by unfold cnt; rw [cnt_congr (fun i hi => h i (by omega)), h n (by omega)]
theorem cnt_add (f : Nat → Bool) (n : Nat) : ∀ m, cnt f (n + m) = cnt f n + cnt (fun i => f (n + i)) m
  | 0 => rfl
  | m + 1 => by rw [show n + (m + 1) = (n + m) + 1 from rfl, cnt, cnt, cnt_add f n m]; omega
theorem cnt_none {f : Nat → Bool} : ∀ {n : Nat}, (∀ i, i < n → f i = false) → cnt f n = 0
  | 0, _ => rfl
  | n + 1, h => by unfold cnt; rw [cnt_none (fun i hi => h i (by omega)), h n (by omega)]; simp
theorem popN_cnt : ∀ (n x : Nat), popN n x = cnt (fun i => x.testBit i) n
  | 0, _ => rfl
  | n + 1, x => by
    rw [popN, popN_cnt n (x / 2), Nat.add_comm n 1, cnt_add]
    have e1 : cnt (fun i => x.testBit i) 1 = x % 2 := by
      unfold cnt cnt
      rw [Nat.testBit_zero]
      by_cases h : x % 2 = 1
      · simp [h]
      · simp [h]; omega
    have e2 : cnt (fun i => (x / 2).testBit i) n = cnt (fun i => x.testBit (1 + i)) n := cnt_congr fun i _ => by rw [Nat.add_comm 1 i]; exact (Nat.testBit_succ x i).symm
    rw [e1, e2]
def lst (f : Nat → Bool) (n : Nat) : Int × Bool := match (List.range n).find? (fun i => !f i) with
  | some i => ((i : Int), true)
  | none => (0, false)
theorem lst_at {f : Nat → Bool} {n i : Nat} (hi : i < n) (h1 : f i = false) (h2 : ∀ j, j < i → f j = true) : lst f n = ((i : Int), true) := by
  have : (List.range n).find? (fun i => !f i) = some i := by
    rw [List.find?_range_eq_some]
    refine ⟨by simp [h1], by simpa using hi, fun j hj => by simp [h2 j hj]⟩
  unfold lst
  rw [this]
theorem lst_full {f : Nat → Bool} {n : Nat} (h : ∀ j, j < n → f j = true) : lst f n = (0, false) := by
  have : (List.range n).find? (fun i => !f i) = none := by
    rw [List.find?_eq_none]
    intro x hx
    simp [h x (by simpa using hx)]
  unfold lst
  rw [this]
theorem lst_cases (f : Nat → Bool) (n : Nat) : (∃ i, i < n ∧ f i = false ∧ (∀ j, j < i → f j = true) ∧ lst f n = ((i : Int), true)) ∨ ((∀ j, j < n → f j = true) ∧ lst f n = (0, false)) := by
  by_cases h : ∃ i, i < n ∧ f i = false
  · obtain ⟨i, hi, hf⟩ := h
    have key : ∀ m, m ≤ n → (∀ j, j < m → f j = true) ∨ ∃ i, i < m ∧ f i = false ∧ ∀ j, j < i → f j = true := by
      intro m
      induction m with
      | zero => intro _; exact .inl fun j hj => by omega
      | succ m ih =>
        intro hm
        rcases ih (by omega) with h1 | ⟨i, h1, h2, h3⟩
        · by_cases h4 : f m = true
          · exact .inl fun j hj => (Nat.lt_succ_iff_lt_or_eq.1 hj).elim (h1 j) (fun e => e ▸ h4)
          · exact .inr ⟨m, by omega, by simpa using h4, h1⟩
        · exact .inr ⟨i, by omega, h2, h3⟩
    rcases key n (Nat.le_refl _) with h1 | ⟨i, h1, h2, h3⟩
    · rw [h1 i hi] at hf; cases hf
    · exact .inl ⟨i, h1, h2, h3, lst_at h1 h2 h3⟩
  · have h' : ∀ j, j < n → f j = true := fun j hj => by
      by_cases h1 : f j = true
      · exact h1
      · exact absurd ⟨j, hj, by simpa using h1⟩ h
    exact .inr ⟨h', lst_full h'⟩
def mbits (img : List Int) (l : List (Int × Int)) (at_ : Int) (i : Nat) : Bool := bitI (vget img l (at_ + (i / 64 : Nat))) (i % 64)
theorem mget_ok {img : List Int} {l : List (Int × Int)} {at_ many i_ : Int} (hv : VR img l) (ha : 0 ≤ at_ ∧ at_ ≤ 1000000000000) (hm : many ≤ 1000000000000) :
    mget_M img l at_ many i_ = some (decide (0 ≤ i_ ∧ i_ < many) && mbits img l at_ i_.toNat) := by
  unfold mget_M
  by_cases h : 0 ≤ i_ ∧ i_ < many
  · rw [if_pos h]
    refine need_of (by omega) ?_
    rw [decide_eq_true h, Bool.true_and, and_pow_zero (hv _) (by omega)]
    unfold mbits
    congr 3 <;> omega
  · rw [if_neg h, decide_eq_false h, Bool.false_and]
def msetF (img : List Int) (l : List (Int × Int)) (at_ many i_ : Int) (is_ : Bool) : Int × List (Int × Int) :=
  if 0 ≤ i_ ∧ i_ < many then vput img l (at_ + i_ / 64) (setb (vget img l (at_ + i_ / 64)) (i_ % 64).toNat is_) else (8, l)
theorem mset_ok {img : List Int} {l : List (Int × Int)} {at_ many i_ : Int} {is_ : Bool} (hv : VR img l) (ha : 0 ≤ at_ ∧ at_ ≤ 1000000000000) (hm : many ≤ 1000000000000) :
    mset_M img l at_ many i_ is_ = some (msetF img l at_ many i_ is_) := by
  unfold mset_M msetF
  by_cases h : 0 ≤ i_ ∧ i_ < many
  · rw [if_pos h, if_pos h]
    refine need_of (by omega) ?_
    refine bind_of rfl ?_
    cases is_
    · rw [if_neg (by decide)]; rfl
    · rw [if_pos rfl]
      refine bind_of rfl ?_
      unfold mset_J1
      refine bind_of rfl ?_
      rw [setb_ins (hv _) (by omega)]
  · rw [if_neg h, if_neg h]
theorem emod_le {v : Int} {m : Nat} (h : 0 ≤ v) : v % 2 ^ m ≤ v := by
  obtain ⟨n, rfl⟩ := Int.eq_ofNat_of_zero_le h
  have h2 : ((2 ^ m : Nat) : Int) = 2 ^ m := by simp
  rw [← h2, ← Int.natCast_emod]
  exact Int.ofNat_le.2 (Nat.mod_le _ _)
theorem mwordAt_u64 {img : List Int} {l : List (Int × Int)} {at_ many : Int} {k : Nat} (hv : VR img l) : U64 (mwordAt img l at_ many k) := by
  have h := hv (at_ + k)
  unfold mwordAt
  split
  · have h2 : (0 : Int) < 2 ^ (many - 64 * (k : Int)).toNat := Int.pow_pos (by omega)
    have h3 := Int.emod_nonneg (vget img l (at_ + k)) (b := 2 ^ (many - 64 * (k : Int)).toNat) (by omega)
    have h4 : vget img l (at_ + k) % 2 ^ (many - 64 * (k : Int)).toNat ≤ vget img l (at_ + k) := emod_le h.1
    unfold U64 at *
    omega
  · exact h
theorem bitI_mod {v : Int} {m j : Nat} (h : 0 ≤ v) : bitI (v % 2 ^ m) j = (decide (j < m) && bitI v j) := by
  obtain ⟨n, rfl⟩ := Int.eq_ofNat_of_zero_le h
  have h2 : ((2 ^ m : Nat) : Int) = 2 ^ m := by simp
  unfold bitI
  rw [← h2, ← Int.natCast_emod, Int.toNat_natCast, Int.toNat_natCast, Nat.testBit_mod_two_pow]
theorem bitI_word {img : List Int} {l : List (Int × Int)} {at_ many : Int} {k j : Nat} (hv : VR img l) (hj : j < 64) (hk : 64 * (k : Int) < many) : bitI (mwordAt img l at_ many k) j = (decide (64 * (k : Int) + j < many) && mbits img l at_ (64 * k + j)) := by
  have e : mbits img l at_ (64 * k + j) = bitI (vget img l (at_ + k)) j := by
    unfold mbits
    rw [show (64 * k + j) / 64 = k by omega, show (64 * k + j) % 64 = j by omega]
  rw [e]
  unfold mwordAt
  split
  · rw [bitI_mod (hv _).1]
    congr 1
    exact decide_eq_decide.2 (by omega)
  · rw [decide_eq_true (by omega), Bool.true_and]
theorem ones_ok {x : Int} (h : U64 x) : ones_M x = some ((cnt (bitI x) 64 : Nat) : Int) := by
  obtain ⟨n, rfl⟩ := Int.eq_ofNat_of_zero_le h.1
  have hn : n < 18446744073709551616 := by have := h.2; omega
  obtain ⟨y, hy, hsum, hlt⟩ := swar_eq hn
  have hand : ∀ a b : Nat, a < 18446744073709551616 → b < 18446744073709551616 → bits .and .u64 (a : Int) (b : Int) = ((a &&& b : Nat) : Int) := by
    intro a b ha hb
    rw [bits_of ⟨by omega, by omega⟩ ⟨by omega, by omega⟩]
    simp only [Int.toNat_natCast]
    rw [BitVec.toNat_and, BitVec.toNat_ofNat, BitVec.toNat_ofNat, Nat.mod_eq_of_lt ha, Nat.mod_eq_of_lt hb]
  have hshr : ∀ (a : Nat) (s : Nat), s < 64 → shrK .u64 (a : Int) (s : Int) = ((a / 2 ^ s : Nat) : Int) := by
    intro a s hs
    unfold shrK
    have e : min (s : Int).toNat IntKind.u64.bits = s := by
      have : IntKind.u64.bits = 64 := rfl
      omega
    rw [e, Int.fdiv_eq_ediv_of_nonneg _ (Int.le_of_lt (Int.pow_pos (by omega)))]
    simp
  have al : ∀ a b : Nat, b < 18446744073709551616 → (a &&& b) < 18446744073709551616 := fun a b hb => Nat.and_lt_two_pow (n := 64) a hb
  have s1 : ∀ m x : Nat, x < 18446744073709551616 → m ≤ 6148914691236517205 → ((bits .and .u64 (shrK .u64 (x : Int) 1) (m : Int)) + (bits .and .u64 (x : Int) (m : Int))) % 18446744073709551616 = ((st1 m x : Nat) : Int) := by
    intro m x hx hm
    rw [show (1 : Int) = ((1 : Nat) : Int) from rfl, hshr x 1 (by omega), hand _ _ (by omega) (by omega), hand _ _ hx (by omega)]
    have h1 := Nat.and_le_right (n := x / 2 ^ 1) (m := m)
    have h2 := Nat.and_le_right (n := x) (m := m)
    unfold st1
    rw [show x / 2 ^ 1 = x / 2 from rfl] at *
    omega
  have s2 : ∀ m x : Nat, x < 18446744073709551616 → m ≤ 6148914691236517205 → ((bits .and .u64 (shrK .u64 (x : Int) 2) (m : Int)) + (bits .and .u64 (x : Int) (m : Int))) % 18446744073709551616 = ((st2 m x : Nat) : Int) := by
    intro m x hx hm
    rw [show (2 : Int) = ((2 : Nat) : Int) from rfl, hshr x 2 (by omega), hand _ _ (by omega) (by omega), hand _ _ hx (by omega)]
    have h1 := Nat.and_le_right (n := x / 2 ^ 2) (m := m)
    have h2 := Nat.and_le_right (n := x) (m := m)
    unfold st2
    rw [show x / 2 ^ 2 = x / 4 from rfl] at *
    omega
  have b1 : ∀ x : Nat, st1 6148914691236517205 x < 18446744073709551616 := fun x => by
    have h1 := Nat.and_le_right (n := x / 2) (m := 6148914691236517205)
    have h2 := Nat.and_le_right (n := x) (m := 6148914691236517205)
    unfold st1; omega
  have b2 : ∀ x : Nat, st2 3689348814741910323 x ≤ 7378697629483820646 := fun x => by
    have h1 := Nat.and_le_right (n := x / 4) (m := 3689348814741910323)
    have h2 := Nat.and_le_right (n := x) (m := 3689348814741910323)
    unfold st2; omega
  have e1 := s1 6148914691236517205 n hn (by omega)
  have e2 := s2 3689348814741910323 (st1 6148914691236517205 n) (b1 n) (by omega)
  have g2 := b2 (st1 6148914691236517205 n)
  generalize hx2 : st2 3689348814741910323 (st1 6148914691236517205 n) = x2 at *
  have e3 : bits .and .u64 (((shrK .u64 (x2 : Int) 4) + (x2 : Int)) % 18446744073709551616) 1085102592571150095 = ((y : Nat) : Int) := by
    rw [show (4 : Int) = ((4 : Nat) : Int) from rfl, hshr x2 4 (by omega), show (x2 / 2 ^ 4) = x2 / 16 from rfl]
    have e : (((x2 / 16 : Nat) : Int) + (x2 : Int)) % 18446744073709551616 = ((x2 / 16 + x2 : Nat) : Int) := by omega
    rw [e, show (1085102592571150095 : Int) = ((1085102592571150095 : Nat) : Int) from rfl, hand _ _ (by omega) (by omega)]
    exact congrArg _ hy
  generalize ht : y + y / 256 = t at *
  generalize hu : t + t / 65536 = u at *
  have e4 : ((y : Int) + shrK .u64 (y : Int) 8) % 18446744073709551616 = ((t : Nat) : Int) := by
    rw [show (8 : Int) = ((8 : Nat) : Int) from rfl, hshr y 8 (by omega), show (y / 2 ^ 8) = y / 256 from rfl]
    omega
  have e5 : ((t : Int) + shrK .u64 (t : Int) 16) % 18446744073709551616 = ((u : Nat) : Int) := by
    rw [show (16 : Int) = ((16 : Nat) : Int) from rfl, hshr t 16 (by omega), show (t / 2 ^ 16) = t / 65536 from rfl]
    omega
  have e6 : ((u : Int) + shrK .u64 (u : Int) 32) % 18446744073709551616 = ((u + u / 4294967296 : Nat) : Int) := by
    rw [show (32 : Int) = ((32 : Nat) : Int) from rfl, hshr u 32 (by omega), show (u / 2 ^ 32) = u / 4294967296 from rfl]
    omega
  unfold ones_M
  refine bind_of (y := ((st1 6148914691236517205 n : Nat) : Int)) (congrArg some e1) ?_
  refine bind_of (y := ((x2 : Nat) : Int)) (congrArg some e2) ?_
  refine bind_of (y := ((y : Nat) : Int)) (congrArg some e3) ?_
  refine bind_of (y := ((t : Nat) : Int)) (congrArg some e4) ?_
  refine bind_of (y := ((u : Nat) : Int)) (congrArg some e5) ?_
  refine bind_of (y := ((u + u / 4294967296 : Nat) : Int)) (congrArg some e6) ?_
  refine need_of (by omega) ?_
  congr 1
  have hc : popN 64 n = cnt (bitI (n : Int)) 64 := by rw [popN_cnt]; rfl
  rw [← hc, ← hsum]
  generalize u + u / 4294967296 = z
  unfold bits
  rw [show IntKind.i64.bits = 64 from rfl]
  show IntKind.i64.wrap ((BitVec.ofInt 64 (z : Int) &&& BitVec.ofInt 64 127).toNat : Int) = _
  rw [BitVec.toNat_and, BitVec.ofInt_natCast, BitVec.toNat_ofNat, show (BitVec.ofInt 64 127).toNat = 2 ^ 7 - 1 from rfl, Nat.and_two_pow_sub_one_eq_mod]
  rw [wrap_i64 (by omega) (by omega)]
  omega
end Go.Proofs.YtmmclabkkigiaaaGreatDoor

namespace Go.Proofs.YtmmclabkkigiaaaGreatDoor
open Go
theorem decode_big (s : ByteArray) (pos : Nat) (h : pos < s.size) (hb : 128 ≤ (s.get! pos).toNat) :
    128 ≤ (Utf8.decode s pos).1 ∧ (Utf8.decode s pos).1 < 2097152 ∧ 1 ≤ (Utf8.decode s pos).2 ∧ pos + (Utf8.decode s pos).2 ≤ s.size ∧ ∀ j, pos ≤ j → j < pos + (Utf8.decode s pos).2 → 128 ≤ (s.get! j).toNat := by
  have one : ∀ j, pos ≤ j → j < pos + 1 → 128 ≤ (s.get! j).toNat := fun j a b => by
    rw [show j = pos by omega]; exact hb
  have err : 128 ≤ Utf8.runeError ∧ Utf8.runeError < 2097152 := by decide
  unfold Utf8.decode
  simp only [Nat.add_zero]
  rw [if_neg (by omega)]
  split
  · rename_i h1
    simp only [Bool.and_eq_true, beq_iff_eq, decide_eq_true_eq] at h1
    split
    · rename_i h2
      refine ⟨h2, by simp only; omega, by simp only; omega, by simp only; omega, fun j a b => ?_⟩
      simp only at b
      by_cases e : j = pos
      · rw [e]; exact hb
      · rw [show j = pos + 1 by omega]; omega
    · exact ⟨err.1, err.2, by simp only; omega, by simp only; omega, one⟩
  · split
    · rename_i h1
      simp only [Bool.and_eq_true, beq_iff_eq, decide_eq_true_eq] at h1
      split
      · rename_i h2
        simp only [Bool.and_eq_true, decide_eq_true_eq] at h2
        refine ⟨by simp only; omega, by simp only; omega, by simp only; omega, by simp only; omega, fun j a b => ?_⟩
        simp only at b
        by_cases e : j = pos
        · rw [e]; exact hb
        · by_cases e1 : j = pos + 1
          · rw [e1]; omega
          · rw [show j = pos + 2 by omega]; omega
      · exact ⟨err.1, err.2, by simp only; omega, by simp only; omega, one⟩
    · split
      · rename_i h1
        simp only [Bool.and_eq_true, beq_iff_eq, decide_eq_true_eq] at h1
        split
        · rename_i h2
          simp only [Bool.and_eq_true, decide_eq_true_eq] at h2
          refine ⟨by simp only; omega, by simp only; omega, by simp only; omega, by simp only; omega, fun j a b => ?_⟩
          simp only at b
          by_cases e : j = pos
          · rw [e]; exact hb
          · by_cases e1 : j = pos + 1
            · rw [e1]; omega
            · by_cases e2 : j = pos + 2
              · rw [e2]; omega
              · rw [show j = pos + 3 by omega]; omega
        · exact ⟨err.1, err.2, by simp only; omega, by simp only; omega, one⟩
      · exact ⟨err.1, err.2, by simp only; omega, by simp only; omega, one⟩
theorem run_next_at {P : Program} (w : World) (b : Nat) (s : ByteArray) (pos : Nat) (ty : TypeId) (hb : w.heap[b]? = some (.stringIter s pos)) (h : pos < s.size) :
    (Instr.next (.pointer (some ⟨b, 0, none⟩)) true ty).run P w = .ok (.tuple #[.bool true, .int .i64 pos, .int .i32 (Utf8.decode s pos).1]) { w with heap := w.heap.setIfInBounds b (.stringIter s (pos + (Utf8.decode s pos).2)) } := by
  simp only [Instr.next, getObj, setObj, Sem.run_bind, Sem.run, hb, Result.andThen, h, if_true]
  simp [goInt, Sem.run, hb]
theorem run_next_stop {P : Program} (w : World) (b : Nat) (s : ByteArray) (pos : Nat) (ty : TypeId) (hb : w.heap[b]? = some (.stringIter s pos)) (h : ¬ pos < s.size) :
    (Instr.next (.pointer (some ⟨b, 0, none⟩)) true ty).run P w = .ok (.tuple #[.bool false]) w := by
  simp [Instr.next, getObj, Sem.run, hb, h]
end Go.Proofs.YtmmclabkkigiaaaGreatDoor

namespace Go.Proofs.YtmmclabkkigiaaaGreatDoor
open Go.Shelf Go.RowKit Go.Lib
variable {P : Program} {ρ : Ren}
def chars2 : ByteArray := ⟨#[47, 0]⟩
set_option maxHeartbeats 4000000 in
set_option maxRecDepth 1000000 in
theorem irune_invalid (L : Lays.n152 P ρ) (s : ByteArray) (r : Int) (w : World) (h0 : 128 ≤ r) (hv : Lib.validRune r = false) (h3 : r ≠ 65533) :
    Calls P (ρ.f 152) #[.string s, .int .i32 r] w fun e w' => e = .returned (.int .i64 (-1)) ∧ w' = w := by
  have t3 := L.t3; have a3 := L.a3; have z3 := L.z3; have v3 := L.v3
  have t4 := L.t4; have a4 := L.a4; have z4 := L.z4; have v4 := L.v4
  have t5 := L.t5; have a5 := L.a5; have z5 := L.z5; have v5 := L.v5
  have t9 := L.t9; have a9 := L.a9; have z9 := L.z9; have v9 := L.v9
  have t21 := L.t21; have a21 := L.a21; have z21 := L.z21; have v21 := L.v21
  have e119 : ∀ args w, (callFunc (ρ.f 119) args).run P w = .ok (.enter (ρ.f 119) args) w := enters_of L.f119 (by kernel_rfl) rfl
  have hr : (r == 65533) = false := beq_eq_false_iff_ne.2 h3
  have hlt : ¬ r < 128 := by omega
  have hle : 0 ≤ r := by omega
  go_enter L.f152, Body.n152_ntmps ρ
  go_wp2_with (go_at_fn (ρ.f 119); refine (Any.utf8_ValidRune { L with } _ _).mono ?_; rintro e w' ⟨rfl, hw⟩; rw [hw, hv])
  go_ret
  exact ⟨rfl, rfl⟩
set_option maxHeartbeats 8000000 in
set_option maxRecDepth 1000000 in
theorem irune_valid (L : Lays.n152 P ρ) (r : Int) (w : World) (h0 : 128 ≤ r) (hv : Lib.validRune r = true) (h3 : r ≠ 65533) :
    Calls P (ρ.f 152) #[.string chars2, .int .i32 r] w fun e w' => e = .returned (.int .i64 (-1)) ∧ ∃ n, w' = w.drewN n := by
  have t3 := L.t3; have a3 := L.a3; have z3 := L.z3; have v3 := L.v3
  have t4 := L.t4; have a4 := L.a4; have z4 := L.z4; have v4 := L.v4
  have t5 := L.t5; have a5 := L.a5; have z5 := L.z5; have v5 := L.v5
  have t9 := L.t9; have a9 := L.a9; have z9 := L.z9; have v9 := L.v9
  have t21 := L.t21; have a21 := L.a21; have z21 := L.z21; have v21 := L.v21
  have e119 : ∀ args w, (callFunc (ρ.f 119) args).run P w = .ok (.enter (ρ.f 119) args) w := enters_of L.f119 (by kernel_rfl) rfl
  have e137 : ∀ args w, (callFunc (ρ.f 137) args).run P w = .ok (.enter (ρ.f 137) args) w := enters_of L.f137 (by kernel_rfl) rfl
  have hr : (r == 65533) = false := beq_eq_false_iff_ne.2 h3
  have hlt : ¬ r < 128 := by omega
  have hle : 0 ≤ r := by omega
  have hU : Utf8.valid r = true := by rw [validRune_eq]; unfold Lib.validRune at hv; unfold Go.validRune; simpa using hv
  have hE := encode_facts r hU h0
  obtain ⟨E, eE⟩ : ∃ E, Utf8.encode r = E := ⟨_, rfl⟩
  rw [eE] at hE
  obtain ⟨g1, g2, g3⟩ := hE
  have g3' := g3 (by omega)
  have hcs : chars2.size = 2 := rfl
  go_enter L.f152, Body.n152_ntmps ρ
  go_wp2_with (go_at_fn (ρ.f 119); refine (Any.utf8_ValidRune { L with } _ _).mono ?_; rintro e w' ⟨rfl, hw⟩; rw [hw, hv])
  go_step3
  go_wp2
  by_cases h3 : 3 ≤ E.size
  · go_loopg [9] 1 (fun g s9 wx => s9 = .int .i64 ((E.size : Int) - 1) ∧ wx = w)
    case atStart => exact ⟨rfl, rfl⟩
    case round =>
      obtain ⟨rfl, rfl⟩ := hrel
      have hnl : ¬ ((E.size : Int) - 1 < (chars2.size : Int)) := by rw [hcs]; omega
      go_wp2
      go_ret
      exact ⟨rfl, 0, rfl⟩
  have hE2 : E.size = 2 := by omega
  have mixed := L.mixed
  have u3 := run_underlying L.t3; have u4 := run_underlying L.t4; have u5 := run_underlying L.t5; have u9 := run_underlying L.t9
  have hE1 : ((E.size : Nat) : Int) - 1 = 1 := by omega
  simp only [hE1]
  go_loopg [9] 1 (fun g s9 wx => s9 = .int .i64 1 ∧ wx = w)
  case atStart => exact ⟨rfl, rfl⟩
  case round =>
    obtain ⟨rfl, rfl⟩ := hrel
    have hyl : ((1 : Int) < (chars2.size : Int)) := by rw [hcs]; omega
    have hyE : ((1 : Int) < (E.size : Int)) := by omega
    go_wp2
    go_step3
    go_wp2
    have hb0 : chars2[1]'(by rw [hcs]; omega) = 0 := rfl
    have hne : ((0 : Int) != ((E[1].toNat : Nat) : Int)) = true := by
      have : 128 ≤ E[1].toNat := by
        have e : E.size - 1 = 1 := by omega
        simp only [e] at g3'
        exact g3'
      exact bne_iff_ne.2 (by omega)
    go_quiet_o (fail)
    go_wp2
    have h2le : (2 : Int) ≤ (chars2.size : Int) := by rw [hcs]; omega
    have hsl : (0 : Int) ≤ 2 ∧ (2 : Int) ≤ (chars2.size : Int) := ⟨by omega, h2le⟩
    have hwr : IntKind.i64.wrap 2 = 2 := by decide
    have hslice : ∀ w, (Instr.sliceAt (ρ.t 9) (.string chars2) (some (.int .i64 2)) none none).run P w = .ok (.string ByteArray.empty) w := fun w => by
      have h := run_slice_string_from_if (P := P) w (ρ.t 9) chars2 .i64 2 t9
      rw [if_pos hsl] at h
      unfold Instr.sliceAt
      simp only [Sem.run_bind, u9, Result.andThen_ok]
      exact h
    go_quiet_o (first | (go_at_fn (ρ.f 137); refine (Any.strings_IndexByte { L with } _ _ _).mono ?_; rintro e w' ⟨rfl, rfl⟩; exact ⟨rfl, _, rfl⟩))
    have hio : Lib.indexByte (ByteArray.empty.data.toList) ((E[1].toNat : Nat) : Int).toNat.toUInt8 = -1 := rfl
    go_wp2
    go_simp
    go_ret
    exact ⟨rfl, _, rfl⟩
set_option maxHeartbeats 8000000 in
set_option maxRecDepth 1000000 in
theorem irune_err (L : Lays.n152 P ρ) (w : World) :
    Calls P (ρ.f 152) #[.string chars2, .int .i32 65533] w fun e w' => e = .returned (.int .i64 (-1)) ∧ ∃ pos, w' = w.iter chars2 pos := by
  have t3 := L.t3; have a3 := L.a3; have z3 := L.z3; have v3 := L.v3
  have t4 := L.t4; have a4 := L.a4; have z4 := L.z4; have v4 := L.v4
  have t5 := L.t5; have a5 := L.a5; have z5 := L.z5; have v5 := L.v5
  have t9 := L.t9; have a9 := L.a9; have z9 := L.z9; have v9 := L.v9
  have t21 := L.t21; have a21 := L.a21; have z21 := L.z21; have v21 := L.v21
  have hr : ((65533 : Int) == 65533) = true := rfl
  have hlt : ¬ (65533 : Int) < 128 := by omega
  have hle : (0 : Int) ≤ 65533 := by omega
  have hcs : chars2.size = 2 := rfl
  go_enter L.f152, Body.n152_ntmps ρ
  go_wp2
  go_loopg [5, 6] 2 (fun g _ _ wx => ∃ i : Nat, i + g = 2 ∧ wx = w.iter chars2 i)
  case atStart => exact ⟨0, rfl, rfl⟩
  case round =>
    obtain ⟨i, hig, rfl⟩ := hrel
    cases gk with
    | zero =>
      obtain rfl : i = 2 := by omega
      have hnx := fun ty => run_next_end (P := P) w chars2 2 ty (by rw [hcs]; omega)
      go_wp2
      go_ret
      exact ⟨rfl, _, rfl⟩
    | succ g =>
      have hi : i < chars2.size := by rw [hcs]; omega
      have hx128 : (chars2[i]'hi).toNat < 128 := by
        rcases (show i = 0 ∨ i = 1 by omega) with rfl | rfl
        · show (47 : UInt8).toNat < 128; decide
        · show (0 : UInt8).toNat < 128; decide
      have hnx := fun ty => run_next_ascii (P := P) w chars2 i ty hi hx128
      obtain ⟨z, hz⟩ : ∃ z : Nat, (chars2[i]'hi).toNat = z := ⟨_, rfl⟩
      rw [hz] at hnx hx128
      have hzn : ((z : Int) == 65533) = false := beq_eq_false_iff_ne.2 (by omega)
      go_wp2
      go_roundg g
      case measure => omega
      case rel => exact ⟨i + 1, by omega, rfl⟩
theorem irune_big (L : Lays.n152 P ρ) (r : Int) (w : World) (h0 : 128 ≤ r) :
    Calls P (ρ.f 152) #[.string chars2, .int .i32 r] w fun e w' => e = .returned (.int .i64 (-1)) ∧ Below w.heap.size w w' := by
  by_cases h3 : r = 65533
  · subst h3
    refine (irune_err L w).mono fun e w' ⟨h1, pos, h2⟩ => ⟨h1, ?_⟩
    rw [h2]
    exact (Below.refl _ _).alloc (Nat.le_refl _) _
  · cases hv : Lib.validRune r with
    | false => exact (irune_invalid L chars2 r w h0 hv h3).mono fun e w' ⟨h1, h2⟩ => ⟨h1, h2 ▸ Below.refl _ _⟩
    | true =>
      refine (irune_valid L r w h0 hv h3).mono fun e w' ⟨h1, n, h2⟩ => ⟨h1, ?_⟩
      rw [h2]
      exact ⟨rfl, rfl, rfl, Nat.le_refl _, fun _ _ => rfl⟩
theorem noAny_add {s chars : List UInt8} {i : Nat} : ∀ {k : Nat}, Lib.NoAny s chars i → (∀ j, i ≤ j → j < i + k → ∃ x, s[j]? = some x ∧ chars.contains x = false) → Lib.NoAny s chars (i + k)
  | 0, h, _ => h
  | k + 1, h, hx => by
    have ih := noAny_add (k := k) h fun j a b => hx j a (by omega)
    obtain ⟨x, x1, x2⟩ := hx (i + k) (by omega) (by omega)
    exact ih.succ x1 x2
set_option maxHeartbeats 8000000 in
set_option maxRecDepth 1000000 in
theorem iany_short (L : Lays.n153 P ρ) (s : ByteArray) (w : World) (h8 : s.size ≤ 8) :
    Calls P (ρ.f 153) #[.string s, .string chars2] w fun e w' => e = .returned (.int .i64 (Lib.indexAny s.data.toList chars2.data.toList)) ∧ Below w.heap.size w w' := by
  have hemp : chars2.toList.isEmpty = false := by
    rw [Lib.toList_data]; rfl
  have hcs : chars2.size = 2 := rfl
  have hn1 : ((chars2.size : Int) == 1) = false := beq_eq_false_iff_ne.2 (by omega)
  have h8z : decide ((8 : Int) < (s.size : Int)) = false := decide_eq_false (by omega)
  have t3 := L.t3; have a3 := L.a3; have z3 := L.z3; have v3 := L.v3
  have t4 := L.t4; have a4 := L.a4; have z4 := L.z4; have v4 := L.v4
  have t5 := L.t5; have a5 := L.a5; have z5 := L.z5; have v5 := L.v5
  have t9 := L.t9; have a9 := L.a9; have z9 := L.z9; have v9 := L.v9
  have t21 := L.t21; have a21 := L.a21; have z21 := L.z21; have v21 := L.v21
  have e152 : ∀ args w, (callFunc (ρ.f 152) args).run P w = .ok (.enter (ρ.f 152) args) w := enters_of L.f152 (by kernel_rfl) rfl
  have e226 : ∀ args w, (callFunc (ρ.f 226) args).run P w = .ok (.enter (ρ.f 226) args) w := enters_of L.f226 (by kernel_rfl) rfl
  go_enter L.f153, Body.n153_ntmps ρ
  go_wp2_with (go_at_fn (ρ.f 226); refine (Any.strings_shouldUseASCIISet { L with } _ _).mono ?_; rintro e w' ⟨rfl, hw⟩; rw [hw, h8z])
  go_loopg [9, 10] s.size (fun g _ _ wx => ∃ i : Nat, i + g = s.size ∧ wx.heap[w.heap.size]? = some (.stringIter s i) ∧ Below w.heap.size w wx ∧ Lib.NoAny s.data.toList chars2.data.toList i)
  case atStart => exact ⟨0, by omega, World.iter_heap w s 0, (Below.refl _ _).alloc (Nat.le_refl _) _, Lib.NoAny.zero _ _⟩
  case round =>
    obtain ⟨i, hig, hit, hbel, hno⟩ := hrel
    have HN : Aside (Lib.NoAny s.data.toList chars2.data.toList i) := hno
    clear hno
    have hlt : w.heap.size < wr.heap.size := (Array.getElem?_eq_some_iff.1 hit).1
    cases gk with
    | zero =>
      obtain rfl : i = s.size := by omega
      have hnx := fun ty => run_next_stop (P := P) wr w.heap.size s s.size ty hit (by omega)
      have HB : Aside (Below w.heap.size w wr) := hbel
      clear hbel hit
      go_wp2
      go_ret
      exact ⟨by rw [Lib.indexAny_none (by rw [← Lib.size_eq]; exact HN.out)]; rfl, HB.out⟩
    | succ g =>
      have hi : i < s.size := by omega
      obtain ⟨x, hx⟩ : ∃ x : UInt8, s[i]'hi = x := ⟨_, rfl⟩
      have hxl : s.data.toList[i]? = some x := by rw [← hx]; exact Lib.data_getElem? s i hi
      have hget : s.get! i = x := by
        rw [← hx]
        simp [ByteArray.get!, getElem!_pos, hi]
        rfl
      obtain ⟨r, k, hdk⟩ : ∃ r k, Utf8.decode s i = (r, k) := ⟨_, _, rfl⟩
      have hnx := fun ty => run_next_at (P := P) wr w.heap.size s i ty hit hi
      rw [hdk] at hnx
      simp only at hnx
      obtain ⟨wn, hwn⟩ : ∃ wn, { wr with heap := wr.heap.setIfInBounds w.heap.size (.stringIter s (i + k)) } = wn := ⟨_, rfl⟩
      rw [hwn] at hnx
      have f1 : wn.heap[w.heap.size]? = some (.stringIter s (i + k)) := by
        rw [← hwn]
        simp [Array.getElem?_setIfInBounds, hlt]
      have f2 : Below w.heap.size w wn := by
        rw [← hwn]
        refine ⟨hbel.os, hbel.tape, hbel.output, by simp only [Array.size_setIfInBounds]; exact hbel.size, fun b hb => ?_⟩
        have := hbel.block b hb
        simp only [Array.getElem?_setIfInBounds]
        rw [if_neg (by omega)]
        exact this
      have f3 : w.heap.size < wn.heap.size := (Array.getElem?_eq_some_iff.1 f1).1
      have F : Aside (wn.heap[w.heap.size]? = some (.stringIter s (i + k)) ∧ Below w.heap.size w wn ∧ w.heap.size < wn.heap.size) := ⟨f1, f2, f3⟩
      have Hx : Aside (s.data.toList[i]? = some x) := hxl
      clear f1 f2 f3 hwn hit hbel hxl hlt
      by_cases hx128 : x.toNat < 128
      · have e := decode_ascii s i hi (by rw [hx]; exact hx128)
        rw [hdk, hx] at e
        obtain ⟨rfl, rfl⟩ := Prod.mk.inj e
        have hcon := Lib.contains_iff_indexByte chars2.data.toList x
        have hback : ((x.toNat : Int)).toNat.toUInt8 = x := by simp
        clear e hdk hget hx
        cases hin : chars2.data.toList.contains x
        · rw [hin] at hcon
          have hlt0 : ¬ ((0 : Int) ≤ Lib.indexByte chars2.data.toList x) := of_decide_eq_false hcon.symm
          clear hcon
          go_wp2_with (go_at_fn (ρ.f 152); refine (Any.strings_IndexRune_ascii { L with } _ _ _ (by omega) (by omega)).mono ?_; rintro e w' ⟨rfl, hw⟩; rw [hw, hback])
          go_roundg g
          case measure => omega
          case rel => exact ⟨i + 1, by omega, F.out.1, F.out.2.1, HN.out.succ Hx.out hin⟩
        · rw [hin] at hcon
          have hge : (0 : Int) ≤ Lib.indexByte chars2.data.toList x := of_decide_eq_true hcon.symm
          clear hcon
          go_wp2_with (go_at_fn (ρ.f 152); refine (Any.strings_IndexRune_ascii { L with } _ _ _ (by omega) (by omega)).mono ?_; rintro e w' ⟨rfl, hw⟩; rw [hw, hback])
          go_ret
          exact ⟨by rw [Lib.indexAny_hit HN.out Hx.out hin]; rfl, F.out.2.1⟩
      · have hbg := decode_big s i hi (by rw [hget]; omega)
        rw [hdk] at hbg
        simp only at hbg
        obtain ⟨b1, b2, b3, b4, b5⟩ := hbg
        have HNk : Aside (Lib.NoAny s.data.toList chars2.data.toList (i + k)) := noAny_add HN.out fun j j1 j2 => by
          have hj : j < s.size := by omega
          refine ⟨s[j], Lib.data_getElem? s j hj, ?_⟩
          have h128 := b5 j j1 j2
          have hg2 : s.get! j = s[j] := by
            simp [ByteArray.get!, getElem!_pos, hj]
            rfl
          rw [hg2] at h128
          show ([47, 0] : List UInt8).contains s[j] = false
          have n1 : s[j] ≠ 47 := fun e => by rw [e] at h128; exact absurd h128 (by decide)
          have n2 : s[j] ≠ 0 := fun e => by rw [e] at h128; exact absurd h128 (by decide)
          simp [n1, n2]
        clear b5 hdk hget hx
        have hlt1 : ¬ ((0 : Int) ≤ -1) := by omega
        go_wp2_with (go_at_fn (ρ.f 152); refine (irune_big { L with } _ _ (by omega)).mono ?_; rintro e w2 ⟨rfl, hw2⟩)
        go_roundg (s.size - (i + k))
        case measure => omega
        case rel =>
          have e2 := hw2.block w.heap.size F.out.2.2
          refine ⟨i + k, by omega, by rw [e2]; exact F.out.1, ?_, HNk.out⟩
          have hf := F.out.2.1
          refine ⟨hw2.os.trans hf.os, hw2.tape.trans hf.tape, hw2.output.trans hf.output, Nat.le_trans hf.size hw2.size, fun b hb => ?_⟩
          rw [hw2.block b (Nat.lt_trans hb F.out.2.2)]
          exact hf.block b hb
theorem iany2 (L : Lays.n153 P ρ) (hv116 : ∀ w, (zeroValue (ρ.t 116)).run P w = .ok (.agg (Array.replicate 256 (.bool false))) w) (hi116 : (P.info? (ρ.t 116)).map (·.size) = some 256) (s : ByteArray) (w : World) (hs : s.size < 4294967281) :
    Calls P (ρ.f 153) #[.string s, .string chars2] w fun e w' => e = .returned (.int .i64 (Lib.indexAny s.data.toList chars2.data.toList)) ∧ Below w.heap.size w w' := by
  by_cases h8 : s.size ≤ 8
  · exact iany_short L s w h8
  · refine (Any.strings_IndexAny_long L hv116 hi116 s chars2 w (Nat.le_refl _) (by omega) hs (by decide) fun j b hj => ?_).mono fun e w' ⟨h1, h2⟩ => ⟨h1, ?_⟩
    · have : b ∈ ([47, 0] : List UInt8) := List.mem_of_getElem? hj
      rcases List.mem_cons.1 this with rfl | h
      · decide
      · rcases List.mem_cons.1 h with rfl | h
        · decide
        · cases h
    · rw [h2]
      exact ((Below.refl _ _).alloc (Nat.le_refl _) _).alloc (by simp) _
set_option maxHeartbeats 1000000 in
theorem cany2 (L : Lays.n150 P ρ) (h116 : (P.info? (ρ.t 116)).map (fun i => (i.zero, i.size)) = some (some (.agg (Array.replicate 256 (.bool false))), 256)) (s : ByteArray) (w : World) (hs : s.size < 4294967281) :
    Calls P (ρ.f 150) #[.string s, .string chars2] w fun e w' => e = .returned (.bool (Lib.containsAny s.data.toList chars2.data.toList)) ∧ Below w.heap.size w w' := by
  have c := iany2 { L with } (zero_of_info h116).1 (zero_of_info h116).2 s w hs
  have t3 := L.t3; have a3 := L.a3; have z3 := L.z3; have v3 := L.v3
  have t4 := L.t4; have a4 := L.a4; have z4 := L.z4; have v4 := L.v4
  have t9 := L.t9; have a9 := L.a9; have z9 := L.z9; have v9 := L.v9
  have e153 : ∀ args w, (callFunc (ρ.f 153) args).run P w = .ok (.enter (ρ.f 153) args) w := enters_of L.f153 (by kernel_rfl) rfl
  go_enter L.f150, Body.n150_ntmps ρ
  go_wp2_with (go_at_fn (ρ.f 153); refine c.mono ?_; rintro e w' ⟨rfl, hw⟩)
  go_ret
  exact ⟨rfl, hw⟩
end Go.Proofs.YtmmclabkkigiaaaGreatDoor

namespace Go.Proofs.YtmmclabkkigiaaaGreatDoor
open Go Go.Shelf
def strRen150 : Ren :=
  {
    f := fun x =>
      match x with
      | 150 => 38
      | 153 => 77
      | 152 => 107
      | 226 => 108
      | 227 => 109
      | 228 => 110
      | 137 => 130
      | 119 => 131
      | 224 => 132
      | 225 => 133
      | 217 => 144
      | 266 => 150
      | n => n,
    t := fun x =>
      match x with
      | 9 => 9
      | 4 => 4
      | 3 => 3
      | 5 => 5
      | 21 => 21
      | 117 => 184
      | 116 => 183
      | 0 => 0
      | 46 => 94
      | 124 => 201
      | n => n,
    g := fun x =>
      x }
theorem strLays150 : Lays.n150 Tryz.prog strRen150 :=
  { mixed := rfl, f119 := Tryz.func131.trans (congrArg some (by kernel_rfl)), f137 := Tryz.func130.trans (congrArg some (by kernel_rfl)), f150 := Tryz.func38.trans (congrArg some (by kernel_rfl)), f152 := Tryz.func107.trans (congrArg some (by kernel_rfl)), f153 := Tryz.func77.trans (congrArg some (by kernel_rfl)), f217 := Tryz.func144.trans (congrArg some (by kernel_rfl)), f224 := Tryz.func132.trans (congrArg some (by kernel_rfl)), f225 := Tryz.func133.trans (congrArg some (by kernel_rfl)), f226 := Tryz.func108.trans (congrArg some (by kernel_rfl)), f227 := Tryz.func109.trans (congrArg some (by kernel_rfl)), f228 := Tryz.func110.trans (congrArg some (by kernel_rfl)), f266 := Tryz.func150.trans (congrArg some (by kernel_rfl)), t0 := Tryz.underlying0, a0 := Tryz.isAgg0, z0 := Tryz.sizeOf0, v0 := Tryz.zeroValue0, t3 := Tryz.underlying3, a3 := Tryz.isAgg3, z3 := Tryz.sizeOf3, v3 := Tryz.zeroValue3, t4 := Tryz.underlying4, a4 := Tryz.isAgg4, z4 := Tryz.sizeOf4, v4 := Tryz.zeroValue4, t5 := Tryz.underlying5, a5 := Tryz.isAgg5, z5 := Tryz.sizeOf5, v5 := Tryz.zeroValue5, t9 := Tryz.underlying9, a9 := Tryz.isAgg9, z9 := Tryz.sizeOf9, v9 := Tryz.zeroValue9, t21 := Tryz.underlying21, a21 := Tryz.isAgg21, z21 := Tryz.sizeOf21, v21 := Tryz.zeroValue21, t46 := Tryz.underlying94, a46 := Tryz.isAgg94, z46 := Tryz.sizeOf94, v46 := Tryz.zeroValue94, t116 := Tryz.underlying183, a116 := Tryz.isAgg183, z116 := Tryz.sizeOf183, t117 := Tryz.underlying184, a117 := Tryz.isAgg184, z117 := Tryz.sizeOf184, v117 := Tryz.zeroValue184, t124 := Tryz.underlying201, a124 := Tryz.isAgg201, z124 := Tryz.sizeOf201, v124 := Tryz.zeroValue201 }
end Go.Proofs.YtmmclabkkigiaaaGreatDoor

namespace Go.Proofs.YtmmclabkkigiaaaGreatDoor
open Go Go.RowKit Go.Shelf
theorem Spec.ofBelow {P : Program} {f : FuncId} {args : Array Value} {B : Nat} {w : World} {v : Value} (h : Calls P f args w fun e w' => e = .returned v ∧ Below w.heap.size w w') : Spec P f args B w [] (fun u H' => u = v ∧ H' = []) :=
  fun l hB hs => h.mono fun e w' ⟨he, hb⟩ => ⟨v, he, [], [], ⟨rfl, rfl⟩, fun _ h => (by cases h), ⟨hb.os, hb.tape, hb.output, hb.size, fun b h1 _ => hb.block b h1, fun b h => (by cases h)⟩⟩
def badB (s : ByteArray) : Bool := Lib.containsAny s.data.toList [47, 0]
theorem anyB : ∀ l : List UInt8, Lib.containsAny l [47, 0] = l.any fun b => b == 47 || b == 0
  | [] => rfl
  | b :: l => by
    have ih := anyB l
    have hge := Lib.indexAny_ge [47, 0] l
    unfold Lib.containsAny at *
    rw [List.any_cons, ← ih, Lib.indexAny]
    have hc : ([47, 0] : List UInt8).contains b = (b == 47 || b == 0) := by simp only [List.contains_cons, List.contains_nil, Bool.or_false]
    rw [hc]
    cases hb : (b == 47 || b == 0) with
    | true => simp
    | false =>
      rw [if_neg (by decide), Bool.false_or]
      by_cases e : Lib.indexAny l [47, 0] = -1
      · rw [e]; decide
      · rw [if_neg (by simpa using e)]
        exact decide_eq_decide.2 (by omega)
theorem badB_iff {s : ByteArray} : badB s = true ↔ ∃ j, j < s.size ∧ ((strNums s).getD j 0 = 47 ∨ (strNums s).getD j 0 = 0) := by
  unfold badB
  rw [anyB, List.any_eq_true]
  constructor
  · rintro ⟨b, hb, hc⟩
    obtain ⟨j, hj, e⟩ := List.getElem_of_mem hb
    have hj2 : j < s.size := by rw [Array.length_toList] at hj; exact hj
    refine ⟨j, hj2, ?_⟩
    have eg : (strNums s).getD j 0 = (b.toNat : Int) := by
      unfold strNums
      simp only [List.getD, List.getElem?_map, List.getElem?_eq_getElem hj, Option.map_some, Option.getD_some, e]
    rw [eg]
    simp only [Bool.or_eq_true, beq_iff_eq] at hc
    rcases hc with rfl | rfl
    · exact .inl rfl
    · exact .inr rfl
  · rintro ⟨j, hj, hc⟩
    have hj2 : j < s.data.toList.length := by rw [Array.length_toList]; exact hj
    refine ⟨s.data.toList[j], List.getElem_mem hj2, ?_⟩
    have eg : (strNums s).getD j 0 = ((s.data.toList[j]).toNat : Int) := by
      unfold strNums
      simp only [List.getD, List.getElem?_map, List.getElem?_eq_getElem hj2, Option.map_some, Option.getD_some]
    rw [eg] at hc
    simp only [Bool.or_eq_true, beq_iff_eq]
    rcases hc with hc | hc
    · exact .inl (UInt8.toNat_inj.1 (by have : (47 : UInt8).toNat = 47 := rfl; omega))
    · exact .inr (UInt8.toNat_inj.1 (by have : (0 : UInt8).toNat = 0 := rfl; omega))
theorem cany_spec {s : ByteArray} (hs : s.size < 4294967281) (B : Nat) (w : World) : Spec Tryz.prog 38 #[.string s, .string (ByteArray.mk #[47, 0])] B w [] (fun v H' => v = .bool (badB s) ∧ H' = []) :=
  Spec.ofBelow (cany2 strLays150 (by kernel_rfl) s w hs)
end Go.Proofs.YtmmclabkkigiaaaGreatDoor

set_option maxRecDepth 20000
set_option maxHeartbeats 1000000
namespace Go.Proofs.YtmmclabkkigiaaaGreatDoor
open Go Go.RowKit
def emay_M (tx_ : ByteArray) : Option (Bool) :=
 if (tx_.size : Int) ≥ 1 then (if (tx_.size : Int) ≤ 40 then (need (tx_.size < 4294967281) <|
if (badB tx_) = true then (some false) else (if (tx_.toList == (ByteArray.mk #[46]).toList) = true then (some false) else (some (!(tx_.toList == (ByteArray.mk #[46, 46]).toList))))) else (some false)) else (some false)
theorem emay_walk {tx_ : ByteArray}  {r : Bool} (B : Nat) (w : World) (hm : emay_M tx_ = some r) : Spec Tryz.prog 9 #[(.string tx_)] B w [] (fun v H' => v = .bool r ∧ H' = []) := by
 refine spec_Q Tryz.func9 rfl fun hs => ?_
 unfold emay_M at hm
 refine W.sr fun K1 hK1 => ?_
 refine zE 1 (hK1 _ _ ?_)
 refine W.sr fun K2 hK2 => ?_
 refine zR 4 ?_
 rcases Bool.eq_false_or_eq_true (decide ((tx_.size : Int) ≥ 1)) with h3 | h3
 ·
  obtain ⟨h3p, hm⟩ := iY hm h3
  refine zS 6 h3 ?_
  refine zS 5 h3 ?_
  refine zR 5 ?_
  rcases Bool.eq_false_or_eq_true (decide ((tx_.size : Int) ≤ 40)) with h4 | h4
  ·
   obtain ⟨h4p, hm⟩ := iY hm h4
   refine zS 11 h4 ?_
   refine zS 9 h4 ?_
   refine zS 10 h4 ?_
   refine zR 1 ?_
   obtain ⟨h5, hm⟩ := need_some hm
   refine zC00 hs (cany_spec (s := tx_) (hs := h5) B _) fun w6 hs8 => ?_
   refine zR 3 ?_
   rcases Bool.eq_false_or_eq_true (!(badB tx_)) with h9 | h9
   rotate_left
   ·
    have h9p : (badB tx_) = true := (bnot_false h9)
    replace hm := ite_yes hm h9p
    refine zS 16 h9 ?_
    refine zS 14 h9 ?_
    refine zS 15 h9 ?_
    refine zE 8 (hK2 _ _ ?_)
    refine W.ret ?_
    obtain rfl := some_inj hm
    refine ret_of (.bool false) (by kernel_rfl) ⟨_, ⟨rfl, rfl⟩, hs8⟩
   have h9p : ¬ ((badB tx_) = true) := ne_true_of_eq_false (bnot_true h9)
   replace hm := ite_no hm h9p
   refine zS 16 h9 ?_
   refine zS 14 h9 ?_
   refine zS 15 h9 ?_
   refine zR 4 ?_
   rcases Bool.eq_false_or_eq_true (!(tx_.toList == (ByteArray.mk #[46]).toList)) with h10 | h10
   rotate_left
   ·
    have h10p : (tx_.toList == (ByteArray.mk #[46]).toList) = true := (bnot_false h10)
    replace hm := ite_yes hm h10p
    refine zS 20 h10 ?_
    refine zS 18 h10 ?_
    refine zS 19 h10 ?_
    refine zE 4 (hK2 _ _ ?_)
    refine W.ret ?_
    obtain rfl := some_inj hm
    refine ret_of (.bool false) (by kernel_rfl) ⟨_, ⟨rfl, rfl⟩, hs8⟩
   have h10p : ¬ ((tx_.toList == (ByteArray.mk #[46]).toList) = true) := ne_true_of_eq_false (bnot_true h10)
   replace hm := ite_no hm h10p
   refine zS 20 h10 ?_
   refine zS 18 h10 ?_
   refine zS 19 h10 ?_
   refine zE 4 (hK2 _ _ ?_)
   refine W.ret ?_
   obtain rfl := some_inj hm
   refine ret_of (.bool (!(tx_.toList == (ByteArray.mk #[46, 46]).toList))) (by kernel_rfl) ⟨_, ⟨rfl, rfl⟩, hs8⟩
  obtain ⟨h4p, hm⟩ := iN hm h4
  refine zS 11 h4 ?_
  refine zS 9 h4 ?_
  refine zS 10 h4 ?_
  refine zE 13 (hK2 _ _ ?_)
  refine W.ret ?_
  obtain rfl := some_inj hm
  refine ret_of (.bool false) (by kernel_rfl) ⟨_, ⟨rfl, rfl⟩, hs⟩
 obtain ⟨h3p, hm⟩ := iN hm h3
 refine zS 6 h3 ?_
 refine zS 5 h3 ?_
 refine zE 18 (hK2 _ _ ?_)
 refine W.ret ?_
 obtain rfl := some_inj hm
 refine ret_of (.bool false) (by kernel_rfl) ⟨_, ⟨rfl, rfl⟩, hs⟩
end Go.Proofs.YtmmclabkkigiaaaGreatDoor

set_option maxRecDepth 20000
namespace Go.Proofs.YtmmclabkkigiaaaGreatDoor
open Go Go.RowKit
theorem sumnew_spec  (B : Nat) (w : World) : Spec Tryz.prog 39 #[] B w [] (fun v H' => ∃ b, v = ptr b ∧ H' = [zb b 147 [(zu 14695981039346656037)]]) := by
 refine spec_Q Tryz.func39 rfl fun hs => ?_
 refine W.sr fun K1 hK1 => ?_
 refine zE 1 (hK1 _ _ ?_)
 refine W.sr fun K2 hK2 => ?_
 refine zR 1 ?_
 refine zN [(zu 14695981039346656037)] 147 hs fun b5 w3 hs4 => ?_
 refine zE 1 (hK2 _ _ ?_)
 refine W.ret ?_
 refine ret_of (zp b5) (by kernel_rfl) ⟨_, ⟨b5, rfl, rfl⟩, hs4⟩
def sumadd_M (s_ : Int) (w_ : Int) : Option (Int) :=
 (some (bits .xor .u64 s_ w_)).bind fun r2 =>
some ((r2 * 1099511628211) % 18446744073709551616)
theorem sumadd_walk {s_ : Int} {w_ : Int} {sb : Nat} {r : Int} (B : Nat) (w : World) (hm : sumadd_M s_ w_ = some r) : Spec Tryz.prog 40 #[(zp sb), (zu w_)] B w [zb sb 147 [(zu s_)]] (fun v H' => v = .tuple #[] ∧ H' = [zb sb 147 [(zu r)]]) := by
 refine spec_W Tryz.func40 rfl fun l0 hs => ?_
 unfold sumadd_M at hm
 refine W.sr fun K1 hK1 => ?_
 refine zE 2 (hK1 _ _ ?_)
 refine W.cond_true true (by kernel_rfl) rfl ?_
 refine W.region ?_
 refine zR 4 ?_
 refine zL ⟨sb, 0, none⟩ (zu s_) (hs.cellAt 0 rfl rfl) ?_
 refine zR 2 ?_
 obtain ⟨r2, h3, hm⟩ := bind_some hm
 replace h3 := some_inj h3
 refine ops_set 12 (v := .int .u64 r2) (Eq.trans (by kernel_rfl) (congrArg (Value.int .u64) h3)) ?_
 refine ops_val (v := .int .u64 (IntKind.u64.wrap (r2 * 1099511628211))) (v' := .int .u64 ((r2 * 1099511628211) % 18446744073709551616)) (by kernel_rfl) (congrArg (Value.int .u64) (wrap_u64_mod _)) ?_
 refine zR 2 ?_
 refine zT 0 [(zu ((r2 * 1099511628211) % 18446744073709551616))] [(zu ((r2 * 1099511628211) % 18446744073709551616))] hs fun w4 hs6 => ?_
 refine zD ?_
 obtain rfl := some_inj hm
 refine ret_ofN (.tuple #[]) (by kernel_rfl) ⟨_, ⟨rfl, rfl⟩, hs6⟩
def sumnow_M (s_ : Int) : Option (Int) :=
 some s_
theorem sumnow_walk {s_ : Int} {sb : Nat} {r : Int} (B : Nat) (w : World) (hm : sumnow_M s_ = some r) : Spec Tryz.prog 42 #[(zp sb)] B w [zb sb 147 [(zu s_)]] (fun v H' => v = .int .u64 r ∧ H' = [zb sb 147 [(zu s_)]]) := by
 refine spec_W Tryz.func42 rfl fun l0 hs => ?_
 unfold sumnow_M at hm
 refine W.sr fun K1 hK1 => ?_
 refine zE 1 (hK1 _ _ ?_)
 refine W.seq fun K2 hK2 => ?_
 refine W.sr fun K3 hK3 => ?_
 refine zE 2 (hK3 _ _ ?_)
 refine W.cond_false false (by kernel_rfl) rfl ?_
 refine W.skip ?_
 refine hK2 _ _ ?_
 refine W.sr fun K4 hK4 => ?_
 refine zR 3 ?_
 refine zL ⟨sb, 0, none⟩ (zu s_) (hs.cellAt 0 rfl rfl) ?_
 refine zE 1 (hK4 _ _ ?_)
 refine W.ret ?_
 obtain rfl := some_inj hm
 refine ret_of (zu s_) (by kernel_rfl) ⟨_, ⟨rfl, rfl⟩, hs⟩
end Go.Proofs.YtmmclabkkigiaaaGreatDoor

set_option maxRecDepth 20000
set_option maxHeartbeats 2000000
namespace Go.Proofs.YtmmclabkkigiaaaGreatDoor
open Go Go.RowKit
theorem values_spec {wa : Option Addr} {wc : Nat} {ws : List Int} (B : Nat) (w : World) : Spec Tryz.prog 41 #[(.slice wa ws.length wc)] B w [] (fun v H' => ∃ b1, v = .func (.func 78) #[] #[ptr b1] ∧ H' = [zb b1 27 [(.slice wa ws.length wc)]]) := by
 refine spec_Q Tryz.func41 rfl fun hs => ?_
 refine W.sr fun K1 hK1 => ?_
 refine zN [(.slice wa ws.length wc)] 27 hs fun b4 w2 hs3 => ?_
 refine zE 1 (hK1 _ _ ?_)
 refine W.sr fun K5 hK5 => ?_
 refine zE 2 (hK5 _ _ ?_)
 refine W.ret ?_
 refine ret_of (.func (.func 78) #[] #[(zp b4)]) (by kernel_rfl) ⟨_, ⟨b4, rfl, rfl⟩, hs3⟩
theorem values1_spec {c1 yl : Nat} {wa : Option Addr} {wc : Nat} {ws : List Int} {Y : Nat → Asn} {Z : Asn} (B : Nat) (w : World) (hbm : ws.length ≤ 1000000) (hy : ∀ k : Nat, k < ws.length → ∀ w', YSpec Tryz.prog yl #[(zu (ws.getD k 0))] B w' [Y k] (fun v H' => (v = .bool true ∧ H' = [Y (k + 1)]) ∨ (v = .bool false ∧ H' = [Z]))) : Spec Tryz.prog 78 #[(.func (.yield yl) #[] #[]), (zp c1)] B w [zb c1 27 [(.slice wa ws.length wc)], kU64.row wa wc ws, Y 0] (fun v H' => v = .tuple #[] ∧ (H' = [zb c1 27 [(.slice wa ws.length wc)], kU64.row wa wc ws, Y ws.length] ∨ H' = [zb c1 27 [(.slice wa ws.length wc)], kU64.row wa wc ws, Z])) := by
 refine spec_W Tryz.func78 rfl fun l0 hs => ?_
 refine W.sr fun K1 hK1 => ?_
 refine zL ⟨c1, 0, none⟩ (.slice wa ws.length wc) (hs.cellAt 0 rfl rfl) ?_
 refine zE 2 (hK1 _ _ ?_)
 refine W.block ?_
 refine W.loop (G := Nat) (fun | k, s_, w_ => (∃ us, s_ = slots 16 [(0, (.func (.yield yl) #[] #[])), (5, (.slice wa ws.length wc)), (6, (zi (ws.length : Int))), (7, (zi ((k : Nat) : Int)))] us) ∧ St B w l0 w_ [zb c1 27 [(.slice wa ws.length wc)], kU64.row wa wc ws, Y k] ∧ (k ≤ ws.length)) (fun k => ws.length - k) 0 ⟨slots_intro _ (by kernel_rfl), hs, by omega⟩ ?_
 rintro k _ w2 ⟨⟨us, rfl⟩, hs3, hk0⟩
 refine W.sr fun K4 hK4 => ?_
 refine zE 1 (hK4 _ _ ?_)
 refine W.seq fun K5 hK5 => ?_
 refine W.cond (decide (((k : Nat) : Int) < (ws.length : Int))) (by kernel_rfl) (fun h6 => ?_) (fun h6 => ?_)
 ·
  have h6p := of_decide_eq_true h6
  refine W.skip ?_
  refine hK5 _ _ ?_
  refine W.seq fun K7 hK7 => ?_
  refine W.block ?_
  refine W.sr fun K8 hK8 => ?_
  have h10 : (k : Nat) < ws.length := by omega
  have hk9 := h10
  refine ops_R (runs_index (a := wa) (n := ws.length) (z := ((k : Nat) : Int)) (size := 1) (k : Nat) rfl hk9 (kU64.addr (St.kcells kU64 hs3 1 rfl) hk9) (by kernel_rfl)) ?_
  refine zL ((adr wa ((k : Nat) * 1)).add 0) (zu (ws.getD (k : Nat) 0)) (kU64.at (St.kcells kU64 hs3 1 rfl) hk9 0 0 rfl) ?_
  refine zE 1 (hK8 _ _ ?_)
  refine W.sr fun K11 hK11 => ?_
  refine zR 2 ?_
  have hs12 := St.f2 hs3
  refine ops_yield (pre := [Y k]) (l := yl) hs12 (by kernel_rfl) (by kernel_rfl) (hy k (by omega) _) ?_
  rintro _ _ w13 (⟨rfl, rfl⟩ | ⟨rfl, rfl⟩) hs14
  ·
   have hs15 : St B w l0 w13 [Y (k + 1), zb c1 27 [(.slice wa ws.length wc)], kU64.row wa wc ws] := hs14
   refine zE 1 (hK11 _ _ ?_)
   refine W.cond_false false (by kernel_rfl) rfl ?_
   refine W.skip ?_
   refine normal_block ?_
   refine hK7 _ _ ?_
   refine W.region ?_
   have h16 : -9223372036854775808 ≤ (((k : Nat) : Int) + 1) ∧ (((k : Nat) : Int) + 1) ≤ 9223372036854775807 := by omega
   refine zI _ (wrap_i64 h16.1 h16.2) ?_
   refine zE 1 ?_
   have hs17 := St.f2 hs15
   have hs18 := St.f2 hs17
   exact ⟨k + 1, ⟨slots_intro _ (by kernel_rfl), hs18, by omega⟩, by omega⟩
  have hs19 : St B w l0 w13 [Z, zb c1 27 [(.slice wa ws.length wc)], kU64.row wa wc ws] := hs14
  refine zE 1 (hK11 _ _ ?_)
  refine W.cond_true true (by kernel_rfl) rfl ?_
  refine W.ret (ret_block (ret_seq (ret_seq (ret_block ?_))))
  have hs20 := St.f2 hs19
  have hs21 := St.f2 hs20
  refine ret_of (.tuple #[]) (by kernel_rfl) ⟨_, ⟨rfl, .inr rfl⟩, hs21⟩
 have h6p := of_decide_eq_false h6
 refine W.exit (exit_seq (exit_seq (exit_here ?_)))
 have hn_ : k = ws.length := by omega
 subst hn_
 refine ret_ofN (.tuple #[]) (by kernel_rfl) ⟨_, ⟨rfl, .inl rfl⟩, hs3⟩
end Go.Proofs.YtmmclabkkigiaaaGreatDoor

set_option maxRecDepth 20000
set_option maxHeartbeats 4000000
namespace Go.Proofs.YtmmclabkkigiaaaGreatDoor
open Go Go.RowKit
def sumof_D29 (p28 : Int) : Option (Int) :=
 (sumnow_M p28).bind fun r44 =>
some r44
def sumof_R29 (ws : List Int) (k22 : Nat) (c23 : Int → Option (Int)) (p28 : Int) : Option (Int) :=
 (sumadd_M p28 (ws.getD k22 0)).bind fun r67 =>
c23 r67
def sumof_M (ws : List Int) : Option (Int) :=
 need (ws.length ≤ 1000000) <|
rounds (fun k_ c_ s_ => sumof_R29 ws k_ c_ s_) (fun s_ => sumof_D29 s_) ws.length 0 14695981039346656037
theorem sumof_walk {ws : List Int} {wa : Option Addr} {wc : Nat} {r : Int} (B : Nat) (w : World) (hm : sumof_M ws = some r) : Spec Tryz.prog 11 #[(.slice wa ws.length wc)] B w [kU64.row wa wc ws] (fun v H' => v = .int .u64 r ∧ H' = [kU64.row wa wc ws]) := by
 refine spec_W Tryz.func11 rfl fun l0 hs => ?_
 unfold sumof_M at hm
 refine W.sr fun K1 hK1 => ?_
 refine zE 1 (hK1 _ _ ?_)
 refine W.sr fun K2 hK2 => ?_
 refine ops_call0 hs (by kernel_rfl) (sumnew_spec B _) ?_
 rintro _ _ w4 ⟨b3, rfl, rfl⟩ hs5
 have hs6 := St.ap1 hs5
 refine zE 1 (hK2 _ _ ?_)
 refine W.sr fun K7 hK7 => ?_
 refine zR 2 ?_
 refine zN [.nilFunc] 83 hs6 fun b10 w8 hs9 => ?_
 refine zT 0 [(.func (.func 40) #[(zp b3)] #[])] [(.func (.func 40) #[(zp b3)] #[])] hs9 fun w11 hs13 => ?_
 refine zD (hK7 _ _ ?_)
 refine W.seq fun K14 hK14 => ?_
 refine W.sr fun K15 hK15 => ?_
 refine zR 1 ?_
 refine ops_call0 hs13 (by kernel_rfl) (values_spec (wa := wa) (wc := wc) (ws := ws) B _) ?_
 rintro _ _ w17 ⟨b16, rfl, rfl⟩ hs18
 have hs19 := St.ap1 hs18
 refine zD (hK15 _ _ ?_)
 refine W.block ?_
 obtain ⟨h20, hm⟩ := need_some hm
 refine W.norm (n := 17) (l := [(3, (zp b3)), (4, (zp b10)), (10, (.func (.func 78) #[] #[(zp b16)]))]) (by kernel_rfl) (fun us21 => ?_)
 have hs24 := St.f2 hs19
 have hs25 := St.f2 hs24
 have hs26 := St.f3 hs25
 have hs27 := St.f3 hs26
 have hs34 := St.f3 hs27
 have hs35 := St.f3 hs34
 have hs36 := St.f3 hs35
 have hs37 := St.f3 hs36
 have hF38 : rounds (fun k_ c_ s_ => sumof_R29 ws k_ c_ s_) (fun s_ => sumof_D29 s_) (ws.length - 0) 0 14695981039346656037 = some r := by rw [Nat.sub_zero]; exact hm
 clear hm
 refine W.roundsA (G := Int) (GZ := Unit) (gf := 78) (lb := #[(zp b16)]) ws.length (fun k_ p28 => rounds (fun k_ c_ s_ => sumof_R29 ws k_ c_ s_) (fun s_ => sumof_D29 s_) (ws.length - k_) k_ p28 = some r) (fun p28 => [zb b10 83 [(.func (.func 40) #[(zp b3)] #[])], zb b3 147 [(zu p28)]]) .ret (fun (_ : Unit) => False) (fun _ => []) [zb b16 27 [(.slice wa ws.length wc)], kU64.row wa wc ws] (fun k_ => #[(zu (ws.getD k_ 0))]) (fun k_ l_ => slotsD 17 ((11, (zu (ws.getD k_ 0))) :: [(3, (zp b3)), (4, (zp b10)), (10, (.func (.func 78) #[] #[(zp b16)]))]) us21 (some l_) []) 14695981039346656037 hF38 hs37 rfl (by kernel_rfl) (fun _ _ => by kernel_rfl) (fun _ => rfl) (fun a_ k_ l_ h1_ h2_ => ⟨rel_round1 (n := 17) (by decide) h1_ h2_, rfl⟩) (fun l_ => #[.func (.yield l_) #[] #[], (zp b16)]) (fun _ => rfl) (fun l_ w_ Y_ Z_ hy_ => values1_spec (ws := ws) (yl := l_) (Y := Y_) (Z := Z_) (hbm := h20) (hy := fun k_ h_ w_ => hy_ k_ h_ w_) _ w_) ?_ ?_ ?_
 rotate_left
 ·
  rintro D33 w39 p28 hF41 hs40
  replace hF41 : rounds (fun k_ c_ s_ => sumof_R29 ws k_ c_ s_) (fun s_ => sumof_D29 s_) (ws.length - ws.length) ws.length p28 = some r := hF41
  rw [rounds_end] at hF41
  have hm : sumof_D29 p28 = some r := hF41
  clear hF41
  unfold sumof_D29 at hm
  have hs42 : St B w l0 w39 [blk D33 (.deferred (some [])), zb b16 27 [(.slice wa ws.length wc)], kU64.row wa wc ws, zb b10 83 [(.func (.func 40) #[(zp b3)] #[])], zb b3 147 [(zu p28)]] := hs40
  refine normal_block ?_
  refine hK14 _ _ ?_
  refine W.sr fun K43 hK43 => ?_
  refine zR 1 ?_
  obtain ⟨r44, h45, hm⟩ := bind_some hm
  have hs46 := St.f4 hs42
  refine zC11 hs46 (sumnow_walk (sb := b3) (s_ := p28) (hm := h45) B _) fun w47 hs49 => ?_
  refine zE 1 (hK43 _ _ ?_)
  refine W.ret ?_
  obtain rfl := some_inj hm
  have hs50 := St.f4 hs49
  have hs51 := St.f4 hs50
  have hs52 := St.f4 hs51
  have hs53 := St.f3 hs52
  have hs54 := St.f4 hs53
  refine leave_mark (D := D33) (v := (zu r44)) hs54 (by kernel_rfl) (fun w55 hs56 => (resD_one rfl (.tmp (by kernel_rfl)))) (fun w55 hs56 => ?_)
  have hs57 := St.f2 hs56
  have hs58 := St.tk1 hs57
  exact ⟨_, ⟨rfl, rfl⟩, hs58⟩
 ·
  rintro _ _ _ h_ _
  exact h_.elim
 rintro k22 hk59 rc31 l30 w60 p28 hF64 lf61 hs62 K63 hK63
 replace hF64 : rounds (fun k_ c_ s_ => sumof_R29 ws k_ c_ s_) (fun s_ => sumof_D29 s_) (ws.length - k22) k22 p28 = some r := hF64
 rw [rounds_at hk59] at hF64
 obtain ⟨c23, hc23⟩ : ∃ c_, c_ = rounds (fun k_ c_ s_ => sumof_R29 ws k_ c_ s_) (fun s_ => sumof_D29 s_) (ws.length - (k22 + 1)) (k22 + 1) := ⟨_, rfl⟩
 rw [← hc23] at hF64
 have hm : sumof_R29 ws k22 c23 p28 = some r := hF64
 clear hF64
 unfold sumof_R29 at hm
 refine W.region ?_
 refine zE 1 ?_
 refine hK63 _ _ hs62 (fun w65 hs66 => ?_)
 refine W.block ?_
 refine W.region ?_
 refine zL ⟨b10, 0, none⟩ (.func (.func 40) #[(zp b3)] #[]) (hs66.cellAt 1 rfl rfl) ?_
 refine zR 1 ?_
 obtain ⟨r67, h68, hm⟩ := bind_some hm
 have hs69 := St.f2 hs66
 refine zC11 hs69 (sumadd_walk (sb := b3) (s_ := p28) (w_ := (ws.getD k22 0)) (hm := h68) B _) fun w70 hs72 => ?_
 refine zD ?_
 refine normal_block ?_
 have hs73 := St.f2 hs72
 have hs74 := St.f2 hs73
 rw [hc23] at hm
 exact ⟨r67, hm, hs74⟩
end Go.Proofs.YtmmclabkkigiaaaGreatDoor

set_option maxRecDepth 20000
set_option maxHeartbeats 2000000
namespace Go.Proofs.YtmmclabkkigiaaaGreatDoor
open Go Go.RowKit
def ebegin_M (tx_ : ByteArray) : Option (Int) :=
 (emay_M tx_).bind fun r4 =>
if r4 = true then ((opack_M tx_).bind fun r13 =>
(sumof_M r13).bind fun r18 =>
need (-9223372036854775808 ≤ (r18.tmod 12) ∧ (r18.tmod 12) ≤ 9223372036854775807) <|
some (r18.tmod 12)) else (some 0)
theorem ebegin_walk {tx_ : ByteArray}  {r : Int} (B : Nat) (w : World) (hm : ebegin_M tx_ = some r) : Spec Tryz.prog 10 #[(.string tx_)] B w [] (fun v H' => v = .int .i64 r ∧ H' = []) := by
 refine spec_Q Tryz.func10 rfl fun hs => ?_
 unfold ebegin_M at hm
 refine W.sr fun K1 hK1 => ?_
 refine zE 1 (hK1 _ _ ?_)
 refine W.seq fun K2 hK2 => ?_
 refine W.sr fun K3 hK3 => ?_
 refine zR 1 ?_
 obtain ⟨r4, h5, hm⟩ := bind_some hm
 refine zC00 hs (emay_walk (tx_ := tx_) (hm := h5) B _) fun w6 hs8 => ?_
 refine zE 1 (hK3 _ _ ?_)
 refine W.cond (!r4) (by kernel_rfl) (fun h9 => ?_) (fun h9 => ?_)
 rotate_left
 ·
  have h9p : r4 = true := (bnot_false h9)
  replace hm := ite_yes hm h9p
  refine W.skip ?_
  refine hK2 _ _ ?_
  refine W.sr fun K10 hK10 => ?_
  refine zR 1 ?_
  obtain ⟨r13, h14, hm⟩ := bind_some hm
  refine ops_call0 hs8 (by kernel_rfl) (opack_walk (hm := h14) B _) ?_
  rintro _ _ w15 ⟨a11, c12, rfl, rfl⟩ hs16
  have hs17 := St.ap1 hs16
  obtain ⟨r18, h19, hm⟩ := bind_some hm
  refine zC11 hs17 (sumof_walk (wa := a11) (wc := c12) (ws := r13) (hm := h19) B _) fun w20 hs22 => ?_
  refine zR 1 ?_
  obtain ⟨h23, hm⟩ := need_some hm
  refine zI _ (wrap_i64 h23.1 h23.2) ?_
  refine zE 1 (hK10 _ _ ?_)
  refine W.ret ?_
  obtain rfl := some_inj hm
  have hs24 := St.tk0 hs22
  refine ret_of (zi (r18.tmod 12)) (by kernel_rfl) ⟨_, ⟨rfl, rfl⟩, hs24⟩
 have h9p : ¬ (r4 = true) := ne_true_of_eq_false (bnot_true h9)
 replace hm := ite_no hm h9p
 refine W.sr fun K25 hK25 => ?_
 refine zE 1 (hK25 _ _ ?_)
 refine W.ret (ret_seq ?_)
 obtain rfl := some_inj hm
 refine ret_of (zi 0) (by kernel_rfl) ⟨_, ⟨rfl, rfl⟩, hs8⟩
end Go.Proofs.YtmmclabkkigiaaaGreatDoor

set_option maxRecDepth 20000
namespace Go.Proofs.YtmmclabkkigiaaaGreatDoor
open Go Go.RowKit
theorem within_spec {n_ f_ t_ : Int} (B : Nat) (w : World) : Spec Tryz.prog 106 #[(zi n_), (zi f_), (zi t_)] B w [] (fun v H' => v = .bool (decide (f_ ≤ n_ ∧ n_ ≤ t_)) ∧ H' = []) := by
 refine spec_Q Tryz.func106 rfl fun hs => ?_
 refine W.sr fun K1 hK1 => ?_
 refine zE 1 (hK1 _ _ ?_)
 refine W.sr fun K2 hK2 => ?_
 refine zR 4 ?_
 rcases Bool.eq_false_or_eq_true (decide (n_ ≥ f_)) with h3 | h3
 ·
  have h3p := of_decide_eq_true h3
  refine zS 10 h3 ?_
  refine zS 9 h3 ?_
  refine zE 5 (hK2 _ _ ?_)
  refine W.ret ?_
  refine ret_of (.bool (decide (n_ ≤ t_))) (by kernel_rfl) ⟨_, ⟨congrArg Value.bool (decide_eq_decide.2 (by omega)), rfl⟩, hs⟩
 have h3p := of_decide_eq_false h3
 refine zS 10 h3 ?_
 refine zS 9 h3 ?_
 refine zE 5 (hK2 _ _ ?_)
 refine W.ret ?_
 refine ret_of (.bool false) (by kernel_rfl) ⟨_, ⟨congrArg Value.bool (decide_eq_false (by omega)).symm, rfl⟩, hs⟩
theorem may_spec {gw gi gb : Int} (B : Nat) (w : World) : Spec Tryz.prog 75 #[(.agg #[(zi gw), (zi gi), (zi gb)])] B w [] (fun v H' => v = .bool (decide (May gw gi gb)) ∧ H' = []) := by
 refine spec_Q Tryz.func75 rfl fun hs => ?_
 refine W.sr fun K1 hK1 => ?_
 refine zN [(zi gw), (zi gi), (zi gb)] 31 hs fun b4 w2 hs3 => ?_
 refine zE 1 (hK1 _ _ ?_)
 refine W.sr fun K5 hK5 => ?_
 refine zR 1 ?_
 refine zL ⟨b4, 0, none⟩ (zi gw) (hs3.cellAt 0 rfl rfl) ?_
 refine zC00 hs3 (within_spec (n_ := gw) (f_ := 1) (t_ := 4) B _) fun w6 hs8 => ?_
 refine zR 1 ?_
 rcases Bool.eq_false_or_eq_true (decide (1 ≤ gw ∧ gw ≤ 4)) with h9 | h9
 ·
  have h9p := of_decide_eq_true h9
  refine zS 6 h9 ?_
  refine zS 5 h9 ?_
  refine zR 1 ?_
  refine zL ⟨b4, 1, none⟩ (zi gi) (hs8.cellAt 0 rfl rfl) ?_
  refine zC00 hs8 (within_spec (n_ := gi) (f_ := 2) (t_ := 64) B _) fun w10 hs12 => ?_
  refine zR 2 ?_
  rcases Bool.eq_false_or_eq_true (decide (2 ≤ gi ∧ gi ≤ 64)) with h13 | h13
  ·
   have h13p := of_decide_eq_true h13
   refine zS 11 h13 ?_
   refine zS 9 h13 ?_
   refine zS 10 h13 ?_
   refine zR 1 ?_
   refine zL ⟨b4, 2, none⟩ (zi gb) (hs12.cellAt 0 rfl rfl) ?_
   refine zC00 hs12 (within_spec (n_ := gb) (f_ := 2) (t_ := 512) B _) fun w14 hs16 => ?_
   refine zE 2 (hK5 _ _ ?_)
   refine W.ret ?_
   have hs17 := St.tk0 hs16
   refine ret_of (.bool (decide (2 ≤ gb ∧ gb ≤ 512))) (by kernel_rfl) ⟨_, ⟨congrArg Value.bool (decide_eq_decide.2 (by unfold May; omega)), rfl⟩, hs17⟩
  have h13p := of_decide_eq_false h13
  refine zS 11 h13 ?_
  refine zS 9 h13 ?_
  refine zS 10 h13 ?_
  refine zE 5 (hK5 _ _ ?_)
  refine W.ret ?_
  have hs18 := St.tk0 hs12
  refine ret_of (.bool false) (by kernel_rfl) ⟨_, ⟨congrArg Value.bool (decide_eq_false (by unfold May; omega)).symm, rfl⟩, hs18⟩
 have h9p := of_decide_eq_false h9
 refine zS 6 h9 ?_
 refine zS 5 h9 ?_
 refine zE 10 (hK5 _ _ ?_)
 refine W.ret ?_
 have hs19 := St.tk0 hs8
 refine ret_of (.bool false) (by kernel_rfl) ⟨_, ⟨congrArg Value.bool (decide_eq_false (by unfold May; omega)).symm, rfl⟩, hs19⟩
theorem rmay_spec {gw gi gb : Int} (B : Nat) (w : World) : Spec Tryz.prog 49 #[(.agg #[(zi gw), (zi gi), (zi gb)])] B w [] (fun v H' => v = .bool (decide (May gw gi gb)) ∧ H' = []) := by
 refine spec_Q Tryz.func49 rfl fun hs => ?_
 refine W.sr fun K1 hK1 => ?_
 refine zN [(zi gw), (zi gi), (zi gb)] 42 hs fun b4 w2 hs3 => ?_
 refine zE 1 (hK1 _ _ ?_)
 refine W.sr fun K5 hK5 => ?_
 refine zR 1 ?_
 refine zL ⟨b4, 0, none⟩ (zi gw) (hs3.cellAt 0 rfl rfl) ?_
 refine zR 2 ?_
 rcases Bool.eq_false_or_eq_true (decide (gw ≥ 1)) with h6 | h6
 ·
  have h6p := of_decide_eq_true h6
  refine zS 6 h6 ?_
  refine zS 5 h6 ?_
  refine zR 1 ?_
  refine zL ⟨b4, 0, none⟩ (zi gw) (hs3.cellAt 0 rfl rfl) ?_
  refine zR 3 ?_
  rcases Bool.eq_false_or_eq_true (decide (gw ≤ 4)) with h7 | h7
  ·
   have h7p := of_decide_eq_true h7
   refine zS 11 h7 ?_
   refine zS 9 h7 ?_
   refine zS 10 h7 ?_
   refine zR 1 ?_
   refine zL ⟨b4, 1, none⟩ (zi gi) (hs3.cellAt 0 rfl rfl) ?_
   refine zR 3 ?_
   rcases Bool.eq_false_or_eq_true (decide (gi ≥ 2)) with h8 | h8
   ·
    have h8p := of_decide_eq_true h8
    refine zS 16 h8 ?_
    refine zS 14 h8 ?_
    refine zS 15 h8 ?_
    refine zR 1 ?_
    refine zL ⟨b4, 1, none⟩ (zi gi) (hs3.cellAt 0 rfl rfl) ?_
    refine zR 3 ?_
    rcases Bool.eq_false_or_eq_true (decide (gi ≤ 64)) with h9 | h9
    ·
     have h9p := of_decide_eq_true h9
     refine zS 21 h9 ?_
     refine zS 19 h9 ?_
     refine zS 20 h9 ?_
     refine zR 1 ?_
     refine zL ⟨b4, 2, none⟩ (zi gb) (hs3.cellAt 0 rfl rfl) ?_
     refine zR 3 ?_
     rcases Bool.eq_false_or_eq_true (decide (gb ≥ 2)) with h10 | h10
     ·
      have h10p := of_decide_eq_true h10
      refine zS 26 h10 ?_
      refine zS 24 h10 ?_
      refine zS 25 h10 ?_
      refine zR 1 ?_
      refine zL ⟨b4, 2, none⟩ (zi gb) (hs3.cellAt 0 rfl rfl) ?_
      refine zE 3 (hK5 _ _ ?_)
      refine W.ret ?_
      have hs11 := St.tk0 hs3
      refine ret_of (.bool (decide (gb ≤ 512))) (by kernel_rfl) ⟨_, ⟨congrArg Value.bool (decide_eq_decide.2 (by unfold May; omega)), rfl⟩, hs11⟩
     have h10p := of_decide_eq_false h10
     refine zS 26 h10 ?_
     refine zS 24 h10 ?_
     refine zS 25 h10 ?_
     refine zE 5 (hK5 _ _ ?_)
     refine W.ret ?_
     have hs12 := St.tk0 hs3
     refine ret_of (.bool false) (by kernel_rfl) ⟨_, ⟨congrArg Value.bool (decide_eq_false (by unfold May; omega)).symm, rfl⟩, hs12⟩
    have h9p := of_decide_eq_false h9
    refine zS 21 h9 ?_
    refine zS 19 h9 ?_
    refine zS 20 h9 ?_
    refine zE 10 (hK5 _ _ ?_)
    refine W.ret ?_
    have hs13 := St.tk0 hs3
    refine ret_of (.bool false) (by kernel_rfl) ⟨_, ⟨congrArg Value.bool (decide_eq_false (by unfold May; omega)).symm, rfl⟩, hs13⟩
   have h8p := of_decide_eq_false h8
   refine zS 16 h8 ?_
   refine zS 14 h8 ?_
   refine zS 15 h8 ?_
   refine zE 15 (hK5 _ _ ?_)
   refine W.ret ?_
   have hs14 := St.tk0 hs3
   refine ret_of (.bool false) (by kernel_rfl) ⟨_, ⟨congrArg Value.bool (decide_eq_false (by unfold May; omega)).symm, rfl⟩, hs14⟩
  have h7p := of_decide_eq_false h7
  refine zS 11 h7 ?_
  refine zS 9 h7 ?_
  refine zS 10 h7 ?_
  refine zE 20 (hK5 _ _ ?_)
  refine W.ret ?_
  have hs15 := St.tk0 hs3
  refine ret_of (.bool false) (by kernel_rfl) ⟨_, ⟨congrArg Value.bool (decide_eq_false (by unfold May; omega)).symm, rfl⟩, hs15⟩
 have h6p := of_decide_eq_false h6
 refine zS 6 h6 ?_
 refine zS 5 h6 ?_
 refine zE 25 (hK5 _ _ ?_)
 refine W.ret ?_
 have hs16 := St.tk0 hs3
 refine ret_of (.bool false) (by kernel_rfl) ⟨_, ⟨congrArg Value.bool (decide_eq_false (by unfold May; omega)).symm, rfl⟩, hs16⟩
end Go.Proofs.YtmmclabkkigiaaaGreatDoor
