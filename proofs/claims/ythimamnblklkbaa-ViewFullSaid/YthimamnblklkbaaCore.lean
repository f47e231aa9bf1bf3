/- The core of this seat's proofs: a small separation logic over the walk's `Calls` and `Code.wp`; operations that touch no memory are evaluated by the kernel (`runN`). -/
import Derived.WalkKit
import Derived.KernelRfl
namespace Go.Proofs.Ythimamnblklkbaa
open Go Go.RowKit

/-! ### running operations -/

def putS (s : Array Value) (d : Option Tmp) (v : Value) : Array Value :=
  match d with
  | some d => s.setIfInBounds d v
  | none => s

def evS (s : Array Value) : Operand → Value := Act.eval ⟨s, []⟩

/-- n operations from number i on, by the model's own run; none where one does not give a value. -/
def runN (P : Program) (ops : Array Oper) : Nat → Nat → Array Value → World → Option (Array Value × World)
  | 0, _, s, w => some (s, w)
  | n + 1, i, s, w =>
    match ops[i]? with
    | none => none
    | some o =>
      match Region.wanted o (yielded ops s) with
      | true =>
        match (execOp (evS s) o).run P w with
        | .ok (.value v) w' => runN P ops n (i + 1) (putS s o.dst v) w'
        | _ => none
      | false => runN P ops n (i + 1) (putS s o.dst undef) w

def runS (P : Program) (ops : Array Oper) (n i : Nat) (s : Array Value) (w : World) : Array Value :=
  match runN P ops n i s w with
  | some (s', _) => s'
  | none => s

/-- A region from operation i on. (A structure: so that no elaborator looks into it.) -/
structure OpsAt (P : Program) (ops : Array Oper) (i : Nat) (s : Array Value) (w : World) (K : Array Value → World → Prop) : Prop where
  out : wpOps P ops (fun e a w => a.defers = [] ∧ e = .normal ∧ K a.tmps w) (List.range' i (ops.size - i)) ⟨s, []⟩ w

section
variable {P : Program} {ops : Array Oper} {i : Nat} {s : Array Value} {w : World} {K : Array Value → World → Prop}

theorem putS_act (s : Array Value) (d : Option Tmp) (v : Value) : (⟨s, []⟩ : Act).put d v = ⟨putS s d v, []⟩ := by
  cases d <;> rfl

theorem ops_done (h : ops.size = i) (hk : K s w) : OpsAt P ops i s w K := by
  refine ⟨?_⟩
  rw [h, Nat.sub_self]
  exact ⟨rfl, rfl, hk⟩

theorem ops_cons {o : Oper} (ho : ops[i]? = some o) :
    OpsAt P ops i s w K ↔ (if Region.wanted o (yielded ops s) then o.wp P ⟨s, []⟩ w (fun a w => wpOps P ops (fun e a w => a.defers = [] ∧ e = .normal ∧ K a.tmps w) (List.range' (i + 1) (ops.size - (i + 1))) a w) (fun e a w => a.defers = [] ∧ e = .normal ∧ K a.tmps w) ∨
        (o.asks P ⟨s, []⟩ w ∧ LetsOut (fun e a w => a.defers = [] ∧ e = .normal ∧ K a.tmps w))
      else OpsAt P ops (i + 1) (putS s o.dst undef) w K) := by
  have hi : i < ops.size := (Array.getElem?_eq_some_iff.1 ho).1
  obtain ⟨k, hk⟩ : ∃ k, ops.size - i = k + 1 := ⟨ops.size - i - 1, by omega⟩
  have hk' : ops.size - (i + 1) = k := by omega
  have e : OpsAt P ops i s w K ↔ wpOps P ops (fun e a w => a.defers = [] ∧ e = .normal ∧ K a.tmps w) (List.range' i (ops.size - i)) ⟨s, []⟩ w := ⟨fun h => h.out, fun h => ⟨h⟩⟩
  have e' : OpsAt P ops (i + 1) (putS s o.dst undef) w K ↔ wpOps P ops (fun e a w => a.defers = [] ∧ e = .normal ∧ K a.tmps w) (List.range' (i + 1) (ops.size - (i + 1))) ⟨putS s o.dst undef, []⟩ w := ⟨fun h => h.out, fun h => ⟨h⟩⟩
  rw [e, e', hk, hk', List.range'_succ]
  simp only [wpOps, ho, putS_act]

/-- One operation that is wanted, by what it comes to. -/
theorem ops_step {o : Oper} (ho : ops[i]? = some o) (hw : Region.wanted o (yielded ops s) = true)
    (h : o.wp P ⟨s, []⟩ w (fun a w => a.defers = [] ∧ OpsAt P ops (i + 1) a.tmps w K) (fun _ _ _ => False)) : OpsAt P ops i s w K := by
  rw [ops_cons ho, if_pos hw]
  refine .inl ?_
  unfold Oper.wp at *
  generalize (execOp (Act.eval ⟨s, []⟩) o).run P w = r at *
  have key : ∀ (a : Act) (w : World), (a.defers = [] ∧ OpsAt P ops (i + 1) a.tmps w K) → wpOps P ops (fun e a w => a.defers = [] ∧ e = .normal ∧ K a.tmps w) (List.range' (i + 1) (ops.size - (i + 1))) a w := by
    rintro ⟨t, d⟩ w ⟨hd, h⟩
    simp only at hd
    subst hd
    exact h.out
  cases r with
  | ok n w' =>
    cases n <;> simp only [Oper.upon] at h ⊢ <;>
      first
        | exact key _ _ h
        | exact Calls.mono h (fun e w'' he => by
            cases e with
            | returned v => exact key _ _ he
            | panicked c => exact he.elim
            | outgrown => obtain ⟨_, _, hf⟩ := he; exact hf.elim)
        | exact Rows.mono h (fun _ _ he => key _ _ he)
  | halt x w' => cases x <;> simp only [Oper.upon] at h ⊢

theorem ops_value {o : Oper} {v : Value} {w' : World} (ho : ops[i]? = some o) (hw : Region.wanted o (yielded ops s) = true)
    (hr : (execOp (evS s) o).run P w = .ok (.value v) w') (hk : OpsAt P ops (i + 1) (putS s o.dst v) w' K) : OpsAt P ops i s w K := by
  refine ops_step ho hw ?_
  unfold Oper.wp
  unfold evS at hr
  rw [hr]
  show _ ∧ _
  rw [putS_act]
  exact ⟨rfl, hk⟩

theorem ops_skipped {o : Oper} {w' : World} (ho : ops[i]? = some o) (hw : Region.wanted o (yielded ops s) = true)
    (hr : (execOp (evS s) o).run P w = .ok .skip w') (hk : OpsAt P ops (i + 1) (putS s o.dst undef) w' K) : OpsAt P ops i s w K := by
  refine ops_step ho hw ?_
  unfold Oper.wp
  unfold evS at hr
  rw [hr]
  show _ ∧ _
  rw [putS_act]
  exact ⟨rfl, hk⟩

theorem ops_enter {o : Oper} {f : FuncId} {args : Array Value} {w' : World} (ho : ops[i]? = some o) (hw : Region.wanted o (yielded ops s) = true)
    (hr : (execOp (evS s) o).run P w = .ok (.enter f args) w')
    (hc : Calls P f args w' fun e w'' => ∃ v, e = .returned v ∧ OpsAt P ops (i + 1) (putS s o.dst v) w'' K) : OpsAt P ops i s w K := by
  refine ops_step ho hw ?_
  unfold Oper.wp
  unfold evS at hr
  rw [hr]
  refine Calls.mono hc ?_
  rintro e w'' ⟨v, rfl, h⟩
  show _ ∧ _
  rw [putS_act]
  exact ⟨rfl, h⟩

theorem runN_ops : ∀ (n i : Nat) (s : Array Value) (w : World) (s' : Array Value) (w' : World), runN P ops n i s w = some (s', w') →
    OpsAt P ops (i + n) s' w' K → OpsAt P ops i s w K := by
  intro n
  induction n with
  | zero =>
    intro i s w s' w' h hk
    simp only [runN, Option.some.injEq, Prod.mk.injEq] at h
    obtain ⟨rfl, rfl⟩ := h
    exact hk
  | succ n ih =>
    intro i s w s' w' h hk
    have e : i + (n + 1) = i + 1 + n := by omega
    rw [e] at hk
    simp only [runN] at h
    cases ho : ops[i]? with
    | none => simp [ho] at h
    | some o =>
      simp only [ho] at h
      cases hw : Region.wanted o (yielded ops s) with
      | false =>
        simp only [hw] at h
        rw [ops_cons ho, hw]
        simp only [Bool.false_eq_true, if_false]
        exact ih _ _ _ _ _ h hk
      | true =>
        simp only [hw] at h
        split at h
        · rename_i v w1 hr
          exact ops_value ho hw hr (ih _ _ _ _ _ h hk)
        · cases h

/-- n operations that leave the world alone. -/
theorem ops_run (n : Nat) (h : (runN P ops n i s w).map (·.2) = some w) (hk : OpsAt P ops (i + n) (runS P ops n i s w) w K) : OpsAt P ops i s w K := by
  unfold runS at hk
  cases hr : runN P ops n i s w with
  | none => rw [hr] at h; cases h
  | some p =>
    obtain ⟨s', w'⟩ := p
    rw [hr] at h hk
    simp only [Option.map_some, Option.some.injEq] at h
    subst h
    exact runN_ops n i s _ s' _ hr hk
end

/-! ### code -/

/-- The code ends well from these slots, none of its calls deferred. -/
structure W (P : Program) (c : Code) (s : Array Value) (w : World) (Q : Exit → Array Value → World → Prop) : Prop where
  out : c.wp P (fun e a w => a.defers = [] ∧ Q e a.tmps w) ⟨s, []⟩ w

/-- behind a piece that ends normally: K; else Q. -/
def seqQ (K : Array Value → World → Prop) (Q : Exit → Array Value → World → Prop) : Exit → Array Value → World → Prop
  | .normal, s, w => K s w
  | e, s, w => Q e s w

def blockQ (id : Nat) (Q : Exit → Array Value → World → Prop) : Exit → Array Value → World → Prop
  | .exit id', s, w => if id' = id then Q .normal s w else Q (.exit id') s w
  | e, s, w => Q e s w

section
variable {P : Program} {s : Array Value} {w : World} {Q : Exit → Array Value → World → Prop}

theorem W.mono {c : Code} {Q' : Exit → Array Value → World → Prop} (h : W P c s w Q) (hq : ∀ e s w, Q e s w → Q' e s w) : W P c s w Q' :=
  ⟨wp_mono h.out fun _ _ _ hh => ⟨hh.1, hq _ _ _ hh.2⟩⟩

theorem W.seq {x y : Code} (h : ∀ K : Array Value → World → Prop, (∀ s w, W P y s w Q → K s w) → W P x s w (seqQ K Q)) : W P (.seq x y) s w Q := by
  refine ⟨wp_seq (wp_mono (h (fun s w => W P y s w Q) fun _ _ h => h).out ?_)⟩
  rintro e ⟨t, d⟩ w ⟨hd, hq⟩
  simp only at hd
  subst hd
  cases e <;> first | exact W.out hq | exact ⟨rfl, hq⟩

theorem W.skip (h : Q .normal s w) : W P .skip s w Q := ⟨wp_skip ⟨rfl, h⟩⟩
theorem W.ret (h : Q .ret s w) : W P .ret s w Q := ⟨wp_ret ⟨rfl, h⟩⟩
theorem W.exit {id : Nat} (h : Q (.exit id) s w) : W P (.exit id) s w Q := ⟨wp_exit ⟨rfl, h⟩⟩

/-- what is to be shown where the code returns, or leaves a block. -/
theorem at_seq {K : Array Value → World → Prop} {e : Exit} (he : e ≠ .normal) (h : Q e s w) : seqQ K Q e s w := by
  cases e <;> first | exact h | exact (he rfl).elim
theorem ret_seq {K : Array Value → World → Prop} (h : Q .ret s w) : seqQ K Q .ret s w := h
theorem ret_block {id : Nat} (h : Q .ret s w) : blockQ id Q .ret s w := h
theorem exit_seq {K : Array Value → World → Prop} {id : Nat} (h : Q (.exit id) s w) : seqQ K Q (.exit id) s w := h
theorem exit_here {id : Nat} (h : Q .normal s w) : blockQ id Q (.exit id) s w := by simp only [blockQ, if_true]; exact h
theorem exit_block {id id' : Nat} (hne : ¬ id' = id) (h : Q (.exit id') s w) : blockQ id Q (.exit id') s w := by simp only [blockQ, if_neg hne]; exact h
theorem normal_block {id : Nat} (h : Q .normal s w) : blockQ id Q .normal s w := h

theorem W.cond {c : Operand} {x y : Code} (b : Bool) (hc : evS s c = .bool b) (ht : b = true → W P x s w Q) (hf : b = false → W P y s w Q) : W P (.cond c x y) s w Q :=
  ⟨wp_cond_split (t := b) hc (fun h => (ht h).out) (fun h => (hf h).out)⟩

theorem W.cond_true {c : Operand} {x y : Code} (b : Bool) (hc : evS s c = .bool b) (hb : b = true) (ht : W P x s w Q) : W P (.cond c x y) s w Q :=
  ⟨wp_cond_true (by subst hb; exact hc) ht.out⟩

theorem W.cond_false {c : Operand} {x y : Code} (b : Bool) (hc : evS s c = .bool b) (hb : b = false) (hf : W P y s w Q) : W P (.cond c x y) s w Q :=
  ⟨wp_cond_false (by subst hb; exact hc) hf.out⟩

theorem W.region {id : Nat} {ops : Array Oper} (h : OpsAt P ops 0 s w (Q .normal)) : W P (.region id ops false) s w Q := by
  refine ⟨wp_region ?_⟩
  have h := h.out
  rw [Nat.sub_zero, ← List.range_eq_range'] at h
  have : ∀ (l : List Nat) (a : Act) (w : World), wpOps P ops (fun e a w => a.defers = [] ∧ e = .normal ∧ Q .normal a.tmps w) l a w → wpOps P ops (fun e a w => a.defers = [] ∧ Q e a.tmps w) l a w := by
    intro l
    induction l with
    | nil => intro a w h; exact ⟨h.1, h.2.2⟩
    | cons i rest ih =>
      intro a w h
      rw [wpOps_cons] at h ⊢
      unfold wpOp at *
      split
      · rename_i ho; simp only [ho] at h; exact ih _ _ h
      · rename_i o ho
        simp only [ho] at h
        split
        · rename_i hw
          simp only [hw, if_true] at h
          refine h.imp ?_ ?_
          · intro h
            refine Oper.wp_mono (fun a w h => ih a w h) ?_
            unfold Oper.wp at *
            generalize (execOp a.eval o).run P w = r at *
            cases r with
            | ok n w' =>
              cases n <;> simp only [Oper.upon] at h ⊢ <;>
                first
                  | exact h
                  | exact Calls.mono h (fun e w'' he => by
                      cases e with
                      | returned v => exact he
                      | panicked c => exact absurd he.2.1 (by simp)
                      | outgrown => obtain ⟨_, _, hf⟩ := he; exact absurd hf.2.1 (by simp))
            | halt x w' => cases x <;> simp only [Oper.upon] at h ⊢ <;> exact absurd h.2.1 (by simp)
          · rintro ⟨_, _, _, hf⟩
            exact absurd hf.2.1 (by simp)
        · rename_i hw
          simp only [hw] at h
          exact ih _ _ h
  exact this _ _ _ h

theorem W.block {id : Nat} {c : Code} (h : W P c s w (blockQ id Q)) : W P (.block id c) s w Q := by
  refine ⟨wp_block (wp_mono h.out ?_)⟩
  rintro e a w ⟨hd, hq⟩
  cases e with
  | exit id' =>
    simp only [Exit.inBlock, blockQ] at *
    split <;> rename_i hh
    · rw [if_pos hh] at hq; exact ⟨hd, hq⟩
    · rw [if_neg hh] at hq; exact ⟨hd, hq⟩
  | _ => exact ⟨hd, hq⟩

/-- A loop, by what holds at each round's head of some ghost value, and a number that falls. -/
theorem W.loop {c : Code} {G : Type} (I : G → Array Value → World → Prop) (μ : G → Nat) (g : G) (h0 : I g s w)
    (round : ∀ g s w, I g s w → W P c s w (seqQ (fun s' w' => ∃ g', I g' s' w' ∧ μ g' < μ g) Q)) : W P (.loop c) s w Q := by
  refine ⟨?_⟩
  intro b k cs
  have key : ∀ n g s w, μ g = n → I g s w →
      ∃ e a' w', (a'.defers = [] ∧ Q e a'.tmps w') ∧ Arrives P (lone (b.at ⟨s, []⟩ (.code c :: .inLoop c :: k)) cs w) b k cs e a' w' := by
    intro n
    induction n using Nat.strongRecOn with
    | _ n ih =>
      intro g s w hn hI
      obtain ⟨e, ⟨t, d⟩, w₁, ⟨hd, hq⟩, harr⟩ := (round g s w hI).out b (.inLoop c :: k) cs
      simp only at hd
      subst hd
      cases e with
      | normal =>
        obtain ⟨g', hg', hlt⟩ := hq
        obtain ⟨e₂, a₂, w₂, hq₂, harr₂⟩ := ih (μ g') (hn ▸ hlt) g' t w₁ rfl hg'
        exact ⟨e₂, a₂, w₂, hq₂, .of_steps (Steps.trans harr (.one step_inLoop)) harr₂⟩
      | exit id => exact ⟨_, ⟨t, []⟩, w₁, ⟨rfl, hq⟩, .pass (x := .inLoop c) rfl (fun _ _ => .inl (by simp)) harr⟩
      | goto l => exact ⟨_, ⟨t, []⟩, w₁, ⟨rfl, hq⟩, .pass (x := .inLoop c) rfl (fun _ _ => .inl (by simp)) harr⟩
      | ret => exact ⟨_, ⟨t, []⟩, w₁, ⟨rfl, hq⟩, .pass (x := .inLoop c) rfl (fun _ _ => .inl (by simp)) harr⟩
      | panic ch => exact ⟨_, ⟨t, []⟩, w₁, ⟨rfl, hq⟩, .pass (x := .inLoop c) rfl (fun _ _ => .inl (by simp)) harr⟩
      | outgrown => exact ⟨_, ⟨t, []⟩, w₁, ⟨rfl, hq⟩, .pass (x := .inLoop c) rfl (fun _ _ => .inl (by simp)) harr⟩
  obtain ⟨e, a', w', hq, harr⟩ := key _ g s w rfl h0
  exact ⟨e, a', w', hq, .of_steps (.one step_loop) harr⟩

/-- A slot's value written out. -/
theorem setS (i : Nat) {v : Value} (h : s.getD i undef = v) : s.setIfInBounds i v = s := by
  subst h
  apply Array.ext (by simp)
  intro j h1 h2
  rw [Array.getElem_setIfInBounds]
  split
  · rename_i e; subst e; simp [h2]
  · rfl

theorem W.set {c : Code} (i : Nat) {v : Value} (h : s.getD i undef = v) (hk : W P c (s.setIfInBounds i v) w Q) : W P c s w Q := by
  rwa [setS i h] at hk

theorem ops_set {ops : Array Oper} {j : Nat} {K : Array Value → World → Prop} (i : Nat) {v : Value} (h : s.getD i undef = v) (hk : OpsAt P ops j (s.setIfInBounds i v) w K) : OpsAt P ops j s w K := by
  rwa [setS i h] at hk
end

/-- slots by a list of what is known of them; the others by us. -/
def fillL : Nat → List (Option Value) → (Nat → Value) → List Value
  | _, [], _ => []
  | i, some v :: r, us => v :: fillL (i + 1) r us
  | i, none :: r, us => us i :: fillL (i + 1) r us

/-- n slots: what is known of some, by number; the others by us. -/
def tmpl : Nat → Nat → List (Nat × Value) → List (Option Value)
  | 0, _, _ => []
  | n + 1, i, [] => none :: tmpl n (i + 1) []
  | n + 1, i, (j, v) :: r => if i = j then some v :: tmpl n (i + 1) r else none :: tmpl n (i + 1) ((j, v) :: r)

def slots (n : Nat) (l : List (Nat × Value)) (us : Nat → Value) : Array Value := (fillL 0 (tmpl n 0 l) us).toArray

/-- what the function hands back, and the world then. -/
def retQ (P : Program) (fn : Func) (R : Value → World → Prop) : Exit → Array Value → World → Prop
  | .normal, s, w | .ret, s, w => ∃ v, (results fn s).run P w = .ok v w ∧ R v w
  | _, _, _ => False

theorem calls_W {P : Program} {f : FuncId} {fn : Func} {c : Code} {args : Array Value} {w : World} {R : Value → World → Prop}
    (hf : P.funcs[f]? = some fn) (hb : fn.body = some c) (h : W P c (args ++ Array.replicate (fn.ntmps - args.size) undef) w (retQ P fn R)) :
    Calls P f args w (fun e w' => ∃ v, e = .returned v ∧ R v w') := by
  refine calls_of_wp hf hb (wp_mono h.out ?_)
  rintro e a w ⟨hd, hq⟩
  cases e with
  | normal => obtain ⟨v, hv, hR⟩ := hq; exact ⟨hd, v, hv, v, rfl, hR⟩
  | ret => obtain ⟨v, hv, hR⟩ := hq; exact ⟨hd, v, hv, v, rfl, hR⟩
  | _ => exact hq.elim

end Go.Proofs.Ythimamnblklkbaa
