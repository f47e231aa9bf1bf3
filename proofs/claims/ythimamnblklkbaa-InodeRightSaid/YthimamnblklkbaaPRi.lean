/- InodeRight's plain law. -/
import Derived.Test.YthimamnblklkbaaARi
namespace Go.Proofs.Ythimamnblklkbaa
open Go Go.RowKit
set_option linter.unusedVariables false

theorem right_big {gw gi gb : Int} {x : Nd} (h : RightP gw gi gb x) : RightP 4 64 512 x := by
  have h0 := h
  simp only [RightP, May] at h0 ⊢
  omega

theorem inoderight_law {i_ b_ wh_ mo_ : Int} {x_ : Nd} (hi : 0 ≤ i_ ∧ i_ ≤ 255) (hb : 0 ≤ b_ ∧ b_ ≤ 255) (hwh : 0 ≤ wh_ ∧ wh_ ≤ 255) (hmo : 0 ≤ mo_ ∧ mo_ ≤ 18446744073709551615) :
    inoderight_M i_ b_ x_ wh_ mo_ = some true := by
  refine Ok.true ?_
  unfold inoderight_M
  have e7 := Int.tmod_eq_emod_of_nonneg (b := 7) hwh.1
  have em := Int.tmod_eq_emod_of_nonneg (b := 4611686018427387904) hmo.1
  refine Ok.need hi (Ok.need hb (Ok.ite (fun h => ?_) (fun h => ?_)))
  · refine Ok.yes (right_big h) (Ok.no (fun h0 => absurd h0.1 (by decide)) (Ok.name fun r hr => ?_))
    rw [em] at hr
    rw [e7]
    have e4 := Int.tmod_eq_emod_of_nonneg (a := r) (b := 4) (by omega)
    rw [e4]
    have h0 := h
    simp only [RightP, May] at h0
    have key : ∀ y : Nd, ¬ RightP 1 (2 + i_ % 20) (2 + b_ % 60) y → Ok (· = true) (inoderight_J1 i_ b_ y.k y.l y.o y.s y.a y.b y.c y.d y.e y.m) := by
      intro y hy
      unfold inoderight_J1
      exact Ok.no hy (Ok.some rfl)
    have k2 : ∀ k l o s a b c d e m : Int, ¬ RightP 1 (2 + i_ % 20) (2 + b_ % 60) ⟨k, l, o, s, a, b, c, d, e, m⟩ → Ok (· = true) (inoderight_J1 i_ b_ k l o s a b c d e m) := fun k l o s a b c d e m h => key ⟨k, l, o, s, a, b, c, d, e, m⟩ h
    repeat' first
      | refine k2 _ _ _ _ _ _ _ _ _ _ (fun hq => ?_)
      | refine Ok.need (by omega) ?_
      | refine Ok.ite (fun _ => ?_) (fun _ => ?_)
    all_goals first
      | (simp only [RightP, May] at hq; omega)
      | (exfalso; omega)
  · refine Ok.no (fun hq => ?_) (Ok.some rfl)
    have := hq.1
    exact absurd this (by decide)
end Go.Proofs.Ythimamnblklkbaa
