/- Division by what is not zero; the beginning of a slice. -/
import Derived.Test.YthimamnblklkbaaDoorVw
namespace Go.Proofs.YthimamnblklkbaaDoor
open Go Go.RowKit

section
variable {M : Bool} {P : Program} {ops : Array Oper} {i : Nat} {s : Fs} {w : World}

/-- '/' or '%' of two numbers of one kind. -/
def divQ (ops : Array Oper) (i : Nat) (s : Fs) : Option (Bool × IntKind × Int × Int) :=
  match opQ ops i s with
  | some o => match o.op with
    | .binOp op _ x y _ => match op, evS s x, evS s y with
      | .rem, .int k a, .int k' b => if k = k' then some (true, k, a, b) else none
      | .quo, .int k a, .int k' b => if k = k' then some (false, k, a, b) else none
      | _, _, _ => none
    | _ => none
  | none => none

theorem run_guard_int (t : TypeId) (x y : Operand) (op : BinOp) (k k' : IntKind) (a b : Int) (w : World) : (eqGuard op t x y (.int k a) (.int k' b)).run P w = .ok () w := by
  unfold eqGuard
  cases op <;> rfl

theorem runs_rem {k : IntKind} {a b r : Int} (hq : divQ ops i s = some (true, k, a, b)) (hb : ¬ b = 0) (hr : a.tmod b = r) : RunsTo P ops i s w (.int k r) w := by
  unfold divQ at hq
  split at hq
  · rename_i o ho
    split at hq
    · rename_i op t x y yt hop
      refine ⟨o, ho, ?_⟩
      split at hq
      · rename_i k1 a1 k2 b1 hx hy
        split at hq
        · rename_i hk
          cases hq
          subst hk hr
          simp only [execOp, hop, hx, hy, Sem.run_bind, run_guard_int, Result.andThen_ok, Sem.run_pure, binOp, ne_eq, not_true_eq_false, if_false, Op.intDiv, if_neg hb]
        · cases hq
      · split at hq <;> cases hq
      · cases hq
    · cases hq
  · cases hq

theorem runs_quo {k : IntKind} {a b r : Int} (hq : divQ ops i s = some (false, k, a, b)) (hb : ¬ b = 0) (hr : k.wrap (a.tdiv b) = r) : RunsTo P ops i s w (.int k r) w := by
  unfold divQ at hq
  split at hq
  · rename_i o ho
    split at hq
    · rename_i op t x y yt hop
      refine ⟨o, ho, ?_⟩
      split at hq
      · split at hq <;> cases hq
      · rename_i k1 a1 k2 b1 hx hy
        split at hq
        · rename_i hk
          cases hq
          subst hk hr
          simp only [execOp, hop, hx, hy, Sem.run_bind, run_guard_int, Result.andThen_ok, Sem.run_pure, binOp, ne_eq, not_true_eq_false, if_false, Op.intDiv, if_neg hb]
        · cases hq
      · cases hq
    · cases hq
  · cases hq

theorem rem_nat {x y : Int} (hx : 0 ≤ x) (hy : 0 < y) : ∃ r : Nat, x.tmod y = (r : Int) ∧ (r : Int) < y ∧ (r : Int) = x % y :=
  ⟨(x.tmod y).toNat, by have := Int.tmod_nonneg y hx; omega, by have := Int.tmod_nonneg y hx; have := Int.tmod_lt_of_pos x hy; omega, by have := Int.tmod_nonneg y hx; rw [Int.toNat_of_nonneg this, Int.tmod_eq_emod_of_nonneg hx]⟩

theorem addr_zero (ad : Addr) : ad.add 0 = ad := by
  unfold Addr.add; simp

theorem runs_prefix {a : Option Addr} {n c size : Nat} {z : Int} (m : Nat) (hz : z = (m : Int)) (h : m ≤ n) (h2 : n ≤ c) (hq : sliceQ P ops i s = some ((a, n, c), none, some z, size)) : RunsTo P ops i s w (.slice a m c) w := by
  subst hz
  have h1 := runs_slice (P := P) (ops := ops) (i := i) (s := s) (w := w) (a := a) (n := n) (c := c) (size := size) 0 m (.inr ⟨rfl, rfl⟩) (.inl rfl) (Nat.zero_le _) (by omega) hq
  have e : (if c = 0 then a else a.map (·.add (0 * size))) = a := by
    split
    · rfl
    · cases a with
      | none => rfl
      | some ad => simp [Nat.zero_mul, addr_zero]
  rw [e] at h1
  exact h1
end

section
variable {α : Type} (K : Kind α) {B : Nat} {w0 w : World} {l0 : List Nat} {H : List Asn}
theorem St.kcap (hs : St B w0 l0 w H) (j : Nat) {a : Option Addr} {c : Nat} {l : List α} (hj : H[j]? = some (K.row a c l)) : l.length ≤ c := (hs.rowLen j hj).2.2.2.1
theorem cells_take {a : Option Addr} {l : List α} (m : Nat) (h : CellsAt a (K.cells l) w) : CellsAt a (K.cells (l.take m)) w := by
  cases a with
  | none =>
    have := cells_none K h
    subst this
    simpa using h
  | some ad =>
    intro j v hv
    refine h j v ?_
    have e : K.cells l = K.cells (l.take m) ++ K.cells (l.drop m) := by rw [← K.cells_append, List.take_append_drop]
    rw [e, List.getElem?_append_left (List.getElem?_eq_some_iff.1 hv).1]
    exact hv
end
end Go.Proofs.YthimamnblklkbaaDoor
