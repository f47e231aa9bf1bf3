/- Plain laws of Apply over what a view wrote. -/
import Derived.Test.YthimamnblklkbaaLv
namespace Go.Proofs.Ythimamnblklkbaa
open Go Go.RowKit

/-- b differs from the words only where the writes go. -/
def Base (ws : List Int) (l : List (Int × Int)) (b : List Int) : Prop :=
  b.length = ws.length ∧ ∀ j : Nat, j < ws.length → vlook l (j : Int) = none → b.getD j 0 = ws.getD j 0

theorem Base.flat {ws : List Int} {l : List (Int × Int)} {b : List Int} (hok : VOk ws l) (h : Base ws l b) : vflat b l = vflat ws l := by
  refine eq_of_getD 0 (by rw [vflat_length, vflat_length, h.1]) fun j hj => ?_
  rw [vflat_length, h.1] at hj
  rw [vflat_get0 hok.keys (by rw [h.1]; exact hok.inside) (by rw [h.1]; exact hj), vflat_get0 hok.keys hok.inside hj]
  cases hl : vlook l (j : Int) with
  | some v => rfl
  | none => simpa using h.2 j hj hl
theorem Base.apply {ws : List Int} {l : List (Int × Int)} {b : List Int} (hok : VOk ws l) (h : Base ws l b) : vapply b l = (0, vflat ws l) := by
  unfold vapply
  rw [h.1, inside_any hok.inside, h.flat hok]
  rfl
theorem base_flat {ws : List Int} {l : List (Int × Int)} (hok : VOk ws l) : Base ws l (vflat ws l) := by
  refine ⟨vflat_length _ _, fun j hj hl => ?_⟩
  rw [vflat_get0 hok.keys hok.inside hj, hl]
  rfl
theorem VOk.take {ws : List Int} {l : List (Int × Int)} (hok : VOk ws l) (m : Nat) : VOk ws (l.take m) := by
  refine ⟨?_, fun p hp => hok.inside p (List.mem_of_mem_take hp), Nat.le_trans (by rw [List.length_take]; omega) hok.many, hok.size⟩
  have h := hok.keys
  unfold Keys at h ⊢
  rw [List.map_take]
  exact h.sublist (List.take_sublist _ _)
theorem apply_take {ws : List Int} {l : List (Int × Int)} (hok : VOk ws l) (m : Nat) : vapply ws (l.take m) = (0, vflat ws (l.take m)) := by
  unfold vapply
  rw [inside_any (hok.take m).inside]
  rfl
theorem vlook_take {l : List (Int × Int)} {j : Int} (m : Nat) (h : vlook l j = none) : vlook (l.take m) j = none := by
  unfold vlook at h ⊢
  rw [Option.map_eq_none_iff, List.find?_eq_none] at h ⊢
  exact fun p hp => h p (List.mem_of_mem_take hp)
theorem base_take {ws : List Int} {l : List (Int × Int)} (hok : VOk ws l) (m : Nat) : Base ws l (vapply ws (l.take m)).2 := by
  rw [apply_take hok]
  refine ⟨vflat_length _ _, fun j hj hl => ?_⟩
  rw [vflat_get0 (hok.take m).keys (hok.take m).inside hj, vlook_take m hl]
  rfl
theorem base_ok {ws : List Int} {l : List (Int × Int)} {b : List Int} (hok : VOk ws l) (h : Base ws l b) : (vapply b l).1 = 0 ∧ (vapply b l).2 = vflat ws l ∧ Base ws l (vapply b l).2 := by
  rw [h.apply hok]
  exact ⟨rfl, rfl, base_flat hok⟩

theorem apply_specN {wa la : Option Addr} {n wc lc : Nat} {words : List Int} {l : List (Int × Int)} {A : Asn} (hn : n = words.length) (B : Nat) (w : World) (hA : ∀ {B : Nat} {w : World} {lf : List Nat}, A.P B w lf → CellsAt la (kWr.cells l) w) (hsz : l.length ≤ 9223372036854775806) :
    Spec Try.prog 15 #[.slice wa n wc, .slice la l.length lc] B w [kU64.row wa wc words, A] (fun v H' => v = .int .i64 (vapply words l).1 ∧ H' = [kU64.row wa wc (vapply words l).2, A]) := by
  subst hn; exact apply_spec B w hA hsz
theorem apply_specT {wa la : Option Addr} {n m wc lc : Nat} {words : List Int} {l : List (Int × Int)} {A : Asn} (hn : n = words.length) (hm : m = l.length) (B : Nat) (w : World) (hA : ∀ {B : Nat} {w : World} {lf : List Nat}, A.P B w lf → CellsAt la (kWr.cells l) w) (hsz : l.length ≤ 9223372036854775806) :
    Spec Try.prog 15 #[.slice wa n wc, .slice la m lc] B w [kU64.row wa wc words, A] (fun v H' => v = .int .i64 (vapply words l).1 ∧ H' = [kU64.row wa wc (vapply words l).2, A]) := by
  subst hn hm; exact apply_spec B w hA hsz
end Go.Proofs.Ythimamnblklkbaa
