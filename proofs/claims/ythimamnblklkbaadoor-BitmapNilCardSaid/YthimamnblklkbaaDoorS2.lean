/- Drawn regions where two operations may come up. -/
import Derived.Test.YthimamnblklkbaaDoorSd
namespace Go.Proofs.YthimamnblklkbaaDoor
open Go Go.RowKit

section
variable {M : Bool} {P : Program} {ops : Array Oper} {T : List (Nat × Nat)} {S : World → Prop} {s : Fs} {w : World} {K : Fs → World → Prop}

theorem any_step2 (i j : Nat) {fuel : Nat} {L : Nat} (hr : readyM T L = [i, j]) (hi' : (opQ ops i s).isSome = true) (hj' : (opQ ops j s).isSome = true)
    (hi : OpsAt false P (alone ops i) 0 s w (fun s' w' => S w' ∧ AnyAt P ops T S fuel (Nat.lor L (Nat.shiftLeft 1 i)) s' w' K))
    (hj : OpsAt false P (alone ops j) 0 s w (fun s' w' => S w' ∧ AnyAt P ops T S fuel (Nat.lor L (Nat.shiftLeft 1 j)) s' w' K)) : AnyAt P ops T S (fuel + 1) L s w K := by
  refine any_steps [i, j] hr (by simp) ?_ ?_
  · intro k hk
    simp only [List.mem_cons, List.not_mem_nil, or_false] at hk
    rcases hk with rfl | rfl
    · exact hi'
    · exact hj'
  · intro k hk
    simp only [List.mem_cons, List.not_mem_nil, or_false] at hk
    rcases hk with rfl | rfl
    · exact hi
    · exact hj
end
end Go.Proofs.YthimamnblklkbaaDoor
