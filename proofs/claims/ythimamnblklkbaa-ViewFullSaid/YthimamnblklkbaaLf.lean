/- Plain laws of a full view. -/
import Derived.Test.YthimamnblklkbaaLv
namespace Go.Proofs.Ythimamnblklkbaa
open Go Go.RowKit

def zs106 : List Int := List.replicate 106 0
theorem zs_len : zs106.length = 106 := List.length_replicate ..
theorem zs_get (k : Nat) : zs106.getD k 0 = 0 := by
  simp only [zs106, List.getD, List.getElem?_replicate]
  split <;> rfl
def full (r : Nat) (w : Int) (k : Nat) : List (Int × Int) := (List.range k).map fun j => ((((r + j) % 106 : Nat) : Int), w)
theorem full_len (r : Nat) (w : Int) (k : Nat) : (full r w k).length = k := by simp [full]
theorem full_none {r k : Nat} {w : Int} (hk : k ≤ 96) : vlook (full r w k) (((r + k) % 106 : Nat) : Int) = none := by
  unfold vlook
  rw [Option.map_eq_none_iff, List.find?_eq_none]
  intro p hp
  simp only [full, List.mem_map, List.mem_range] at hp
  obtain ⟨j, hj, rfl⟩ := hp
  simp only [beq_iff_eq]
  omega
theorem full_some {r k : Nat} {w : Int} (hr : r < 106) (hk : 0 < k) : vlook (full r w k) (r : Int) = some w := by
  obtain ⟨k, rfl⟩ : ∃ m, k = m + 1 := ⟨k - 1, by omega⟩
  unfold vlook full
  rw [List.range_succ_eq_map, List.map_cons, List.find?_cons]
  have : ((((((r + 0) % 106 : Nat) : Int), w) : Int × Int).1 == (r : Int)) = true := by simp only [beq_iff_eq]; omega
  rw [this]
  rfl
theorem full_step {r k : Nat} {w : Int} (hk : k < 96) : vput zs106 (full r w k) (((r + k) % 106 : Nat) : Int) w = (0, full r w (k + 1)) := by
  rw [vput_in (by rw [zs_len]; omega) (by rw [full_len]; exact hk), vset_none (full_none (by omega))]
  simp [full, List.range_succ]
theorem full_p1 {r : Nat} {w x : Int} : vput zs106 (full r w 96) (((r + 96) % 106 : Nat) : Int) x = (5, full r w 96) := by
  simp only [vput]
  rw [if_pos (by rw [zs_len]; omega), full_none (Nat.le_refl _)]
  exact if_pos (by rw [full_len]; omega)
theorem full_g1 {r : Nat} {w : Int} : vget zs106 (full r w 96) (((r + 96) % 106 : Nat) : Int) = 0 := by
  simp only [vget]
  rw [if_pos (by rw [zs_len]; omega), full_none (Nat.le_refl _)]
  exact zs_get _
theorem full_p2 {r : Nat} {w x : Int} (hr : r < 106) : vput zs106 (full r w 96) (r : Int) x = (0, vset (full r w 96) r x) := by
  simp only [vput]
  rw [if_pos (by rw [zs_len]; omega), full_some hr (by omega)]
theorem full_g2 {r : Nat} {w x : Int} (hr : r < 106) : vget zs106 (vset (full r w 96) r x) (r : Int) = x := by
  rw [vget_vset (by rw [zs_len]; omega), if_pos rfl]
theorem full_l1 {r : Nat} {w x : Int} (hr : r < 106) : (vset (full r w 96) r x).length = 96 := by
  rw [vset_length_some (by rw [full_some hr (by omega)]; rfl), full_len]
theorem full_p3 {r : Nat} {x : Int} (hr : r < 106) : vput zs106 [] (r : Int) x = (0, [((r : Int), x)]) := by
  rw [vput_in (by rw [zs_len]; omega) (by simp)]
  rfl
theorem full_g3 {r : Nat} {x : Int} (hr : r < 106) : vget zs106 [((r : Int), x)] (r : Int) = x := by
  simp only [vget]
  rw [if_pos (by rw [zs_len]; omega)]
  simp [vlook]

theorem rem106 (r k : Nat) : Int.tmod ((r : Int) + (k : Int)) 106 = (((r + k) % 106 : Nat) : Int) := by
  rw [Int.tmod_eq_emod_of_nonneg (by omega)]
  omega

theorem put_eq {p : Value} {img : List Int} {l l2 : List (Int × Int)} {at_ x_ e : Int} (he : vput img l at_ x_ = (e, l2)) (B : Nat) (w : World) :
    Spec Try.prog 19 #[p, .int .i64 at_, .int .u64 x_] B w [viewA p img l] (fun v H' => v = .int .i64 e ∧ H' = [viewA p img l2]) := by
  have h := put_spec (p := p) (img := img) (l := l) (at_ := at_) (x_ := x_) B w
  rw [he] at h
  exact h
theorem get_eq {p : Value} {img : List Int} {l : List (Int × Int)} {at_ e : Int} (he : vget img l at_ = e) (B : Nat) (w : World) (hv : ViewAt p img l w) :
    Spec Try.prog 22 #[p, .int .i64 at_] B w [] (fun v H' => v = .int .u64 e ∧ H' = []) := by
  have h := get_spec (at_ := at_) B w hv
  rw [he] at h
  exact h
end Go.Proofs.Ythimamnblklkbaa
