/- The table behind math/bits.TrailingZeros64, and what a look into it finds. -/
import Derived.Test.YthimamnblklkbaaDoorBt
import Derived.Shelf.Spec.TrailingZeros
namespace Go.Proofs.YthimamnblklkbaaDoor
open Go Go.RowKit

def tab8 : List Value := Lib.deBruijn64tab.map fun (z : Nat) => Value.int .u8 (Int.ofNat z)

theorem shrK_58 (z : Int) : shrK .u64 z 58 = z / 288230376151711744 := by
  unfold shrK
  rw [show (min (58 : Int).toNat IntKind.u64.bits) = 58 from rfl]
  exact Int.fdiv_eq_ediv_of_nonneg _ (by decide)

theorem tab8_len : Lib.deBruijn64tab.length = 64 := by decide +kernel

theorem tab8_at {i k : Nat} (hi : i < 64) (h : Lib.deBruijn64tab.getD i 0 = k) : tab8[i]? = some (.int .u8 (k : Int)) := by
  have hl : i < Lib.deBruijn64tab.length := by rw [tab8_len]; exact hi
  unfold tab8
  rw [List.getElem?_map, List.getElem?_eq_getElem hl]
  rw [List.getD_eq_getElem?_getD, List.getElem?_eq_getElem hl] at h
  have ht : Lib.deBruijn64tab[i] = k := h
  rw [ht]; rfl

theorem tz_at {x y : Int} (h0 : 0 ≤ x ∧ x < 18446744073709551616) (hx : ¬ x = 0) (hy : bits .and .u64 x (IntKind.u64.wrap (0 - x)) = y) :
    ∃ k : Nat, k < 64 ∧ shrK .u64 ((y * 285870213051353865) % 18446744073709551616) 58 = (k : Int) ∧ tab8[k]? = some (.int .u8 (Lib.ctz 64 x.toNat : Int)) := by
  rw [Int.zero_sub] at hy
  subst hy
  obtain ⟨n, rfl⟩ := Int.eq_ofNat_of_zero_le h0.1
  have hn : n < 18446744073709551616 := by omega
  have hn0 : n ≠ 0 := by omega
  obtain ⟨hlow, hk⟩ := Lib.lowest_bit 64 n hn0 hn
  obtain ⟨hi, htab⟩ := Lib.deBruijn64_at _ hk
  refine ⟨_, hi, ?_, ?_⟩
  · rw [← IntKind.wrap_u64, shrK_58]; exact tz64_key n _ hn hn0 hlow
  · exact tab8_at hi htab

theorem ctz_le {x : Int} (h0 : 0 ≤ x ∧ x < 18446744073709551616) (hx : ¬ x = 0) : Lib.ctz 64 x.toNat < 64 := (Lib.lowest_bit 64 x.toNat (by omega) (by omega)).2
theorem ctz_zero : Lib.ctz 64 (0 : Int).toNat = 64 := rfl
end Go.Proofs.YthimamnblklkbaaDoor
