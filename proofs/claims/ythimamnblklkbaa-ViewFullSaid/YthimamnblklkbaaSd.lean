/- Regions whose order is drawn: what only reads is taken first, wherever a condition S on the world says what it reads. -/
import Derived.Test.YthimamnblklkbaaSq
import Derived.OrdersHeld
import Derived.Deep.RegionHeld
namespace Go.Proofs.Ythimamnblklkbaa
open Go Go.RowKit

/-- A drawn region under way: 'listed' has come up. -/
structure AnyAt (P : Program) (ops : Array Oper) (S : World → Prop) (fuel : Nat) (listed : Array Bool) (s : Array Value) (w : World) (K : Array Value → World → Prop) : Prop where
  out : wpAnyH P .any ops (fun e a w => a.defers = [] ∧ e = .normal ∧ K a.tmps w) S fuel listed ⟨s, []⟩ w

def takeB (ops : Array Oper) (i : Nat) (listed : Array Bool) : Bool := Region.noSelect ops && (Region.free .any ops listed i && (Region.ready .any ops listed).contains i)

/-- one operation that gives a value. -/
def valVQ (P : Program) (ops : Array Oper) (i : Nat) (s : Array Value) (w : World) : Option (Value × World) :=
  match opQ ops i s with
  | some o => match (execOp (evS s) o).run P w with
    | .ok (.value v) w' => some (v, w')
    | _ => none
  | none => none

/-- the value, by a run in whatever world. -/
def ixV (P : Program) (ops : Array Oper) (i : Nat) (s : Array Value) : Value :=
  match valVQ P ops i s default with
  | some (v, _) => v
  | none => undef

/-- the operation alone, its guard struck. -/
def alone (ops : Array Oper) (i : Nat) : Array Oper := #[{ ops.getD i default with guard := none }]

section
variable {P : Program} {ops : Array Oper} {S : World → Prop} {s : Array Value} {w : World} {K : Array Value → World → Prop}

theorem any_R (i : Nat) {fuel : Nat} {listed : Array Bool} {v : Value} (hb : takeB ops i listed = true) (hy : ∀ w', S w' → RunsTo P ops i s w' v w') (hS : S w)
    (h : AnyAt P ops S fuel (listed.setIfInBounds i true) (putS s (dstOf ops i) v) w K) : AnyAt P ops S (fuel + 1) listed s w K := by
  simp only [takeB, Bool.and_eq_true] at hb
  obtain ⟨o, ho, _⟩ := hy w hS
  obtain ⟨h1, h2, h3⟩ := opQ_some ho
  refine ⟨wpAnyH_take h1 hb.1 hb.2.1 hb.2.2 (fun _ _ _ h => absurd h.2.1 (by simp)) (v := v) (.inl ⟨h2, fun w' hS' => ?_⟩) hS ?_⟩
  · obtain ⟨o', ho', hr⟩ := hy w' hS'
    rw [ho] at ho'
    cases ho'
    exact hr
  · rw [putS_act, ← h3]
    exact h.out

theorem any_take (i : Nat) {fuel : Nat} {listed : Array Bool} (hb : takeB ops i listed = true) (hr : ∀ w', valVQ P ops i s w' = some (ixV P ops i s, w')) (hS : S w)
    (h : AnyAt P ops S fuel (listed.setIfInBounds i true) (putS s (dstOf ops i) (ixV P ops i s)) w K) : AnyAt P ops S (fuel + 1) listed s w K := by
  refine any_R i hb (fun w' _ => ?_) hS h
  have hr' := hr w'
  generalize ixV P ops i s = v at hr'
  unfold valVQ at hr'
  split at hr'
  · rename_i o ho
    refine ⟨o, ho, ?_⟩
    split at hr'
    · rename_i v' w1 hrun; cases hr'; exact hrun
    · cases hr'
  · cases hr'

theorem any_val {v v' : Value} (i : Nat) {fuel : Nat} {listed : Array Bool} (hb : takeB ops i listed = true) (hr : ∀ w', valVQ P ops i s w' = some (v, w')) (hv : v = v') (hS : S w)
    (h : AnyAt P ops S fuel (listed.setIfInBounds i true) (putS s (dstOf ops i) v') w K) : AnyAt P ops S (fuel + 1) listed s w K := by
  subst hv
  refine any_R i hb (fun w' _ => ?_) hS h
  have hr' := hr w'
  unfold valVQ at hr'
  split at hr'
  · rename_i o ho
    refine ⟨o, ho, ?_⟩
    split at hr'
    · rename_i v' w1 hrun; cases hr'; exact hrun
    · cases hr'
  · cases hr'

theorem any_skip (i : Nat) {o : Oper} {fuel : Nat} {listed : Array Bool} (hb : takeB ops i listed = true) (ho : ops[i]? = some o) (hw : Region.wanted o (yielded ops s) = false) (hS : S w)
    (h : AnyAt P ops S fuel (listed.setIfInBounds i true) (putS s o.dst undef) w K) : AnyAt P ops S (fuel + 1) listed s w K := by
  simp only [takeB, Bool.and_eq_true] at hb
  refine ⟨wpAnyH_take ho hb.1 hb.2.1 hb.2.2 (fun _ _ _ h => absurd h.2.1 (by simp)) (.inr ⟨hw, rfl⟩) hS ?_⟩
  rw [putS_act]
  exact h.out

/-- the one operation that may come up. -/
theorem any_step (i : Nat) {fuel : Nat} {listed : Array Bool} (hr : Region.ready .any ops listed = [i]) (ho' : (opQ ops i s).isSome = true)
    (h : OpsAt P (alone ops i) 0 s w (fun s' w' => S w' ∧ AnyAt P ops S fuel (listed.setIfInBounds i true) s' w' K)) : AnyAt P ops S (fuel + 1) listed s w K := by
  obtain ⟨o, ho⟩ := Option.isSome_iff_exists.1 ho'
  refine ⟨wpAnyH_all hr (by simp) ?_⟩
  intro j hj
  simp only [List.mem_singleton] at hj
  subst hj
  obtain ⟨h1, h2, h3⟩ := opQ_some ho
  unfold wpOp
  simp only [h1, h2, if_true]
  have e0 : ops.getD j default = o := by
    have := (Array.getElem?_eq_some_iff.1 h1)
    obtain ⟨hlt, he⟩ := this
    simp [Array.getD, hlt, he]
  have e1 : (alone ops j)[0]? = some { o with guard := none } := by
    simp [alone, e0]
  rw [ops_cons e1] at h
  have e2 : Region.wanted { o with guard := none } (yielded (alone ops j) s) = true := rfl
  rw [e2] at h
  simp only [if_true] at h
  have hsz : (alone ops j).size = 1 := rfl
  simp only [hsz, Nat.sub_self, List.range'_zero] at h
  rcases h with h | h
  · refine .inl ?_
    have h' : o.wp P ⟨s, []⟩ w (fun a w => a.defers = [] ∧ Exit.normal = Exit.normal ∧ S w ∧ AnyAt P ops S fuel (listed.setIfInBounds j true) a.tmps w K) (fun e a w => a.defers = [] ∧ e = .normal ∧ S w ∧ AnyAt P ops S fuel (listed.setIfInBounds j true) a.tmps w K) := h
    clear h
    unfold Oper.wp at *
    generalize (execOp (Act.eval ⟨s, []⟩) o).run P w = r at *
    have key : ∀ (a : Act) (w : World), (a.defers = [] ∧ True ∧ S w ∧ AnyAt P ops S fuel (listed.setIfInBounds j true) a.tmps w K) →
        S w ∧ wpAnyH P .any ops (fun e a w => a.defers = [] ∧ e = .normal ∧ K a.tmps w) S fuel (listed.setIfInBounds j true) a w := by
      rintro ⟨t, d⟩ w ⟨hd, _, hS, h⟩
      simp only at hd
      subst hd
      exact ⟨hS, h.out⟩
    cases r with
    | ok n w' =>
      cases n <;> simp only [Oper.upon] at h' ⊢ <;>
        first
          | exact key _ _ h'
          | exact Calls.mono h' (fun e w'' he => by
              cases e with
              | returned v => exact key _ _ he
              | panicked c => exact absurd he.2.1 (by simp)
              | outgrown => obtain ⟨_, _, hf⟩ := he; exact absurd hf.2.1 (by simp))
          | exact Rows.mono h' (fun _ _ he => key _ _ he)
    | halt x w' => cases x <;> simp only [Oper.upon] at h' ⊢ <;> exact absurd h'.2.1 (by simp)
  · obtain ⟨_, _, _, hf⟩ := h
    exact absurd hf.2.1 (by simp)

theorem any_set (i : Nat) {v : Value} {fuel : Nat} {listed : Array Bool} (h : s.getD i undef = v) (hk : AnyAt P ops S fuel listed (s.setIfInBounds i v) w K) : AnyAt P ops S fuel listed s w K := by
  rwa [setS i h] at hk

theorem any_done {fuel : Nat} {listed : Array Bool} (hr : Region.ready .any ops listed = []) (h : K s w) : AnyAt P ops S fuel listed s w K :=
  ⟨wpAnyH_done hr ⟨rfl, rfl, h⟩ fuel⟩

theorem W.regionD {id : Nat} {Q : Exit → Array Value → World → Prop} (S : World → Prop) (hm : P.follows .mixedOrders = true) (hS : S w.drew)
    (h : AnyAt P ops S ops.size (Array.replicate ops.size false) s w.drew (Q .normal)) : W P (.region id ops true) s w Q := by
  refine ⟨wp_mono (wp_region_held_drew (S := S) hm hS fun _ => h.out) ?_⟩
  rintro e a w ⟨hd, rfl, hq⟩
  exact ⟨hd, hq⟩
end
end Go.Proofs.Ythimamnblklkbaa
