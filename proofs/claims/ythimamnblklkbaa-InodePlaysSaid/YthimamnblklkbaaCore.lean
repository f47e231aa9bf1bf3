/- The core of this seat's proofs: a small separation logic over the walk's `Calls` and `Code.wp`; a body's slots are told by a function; operations that touch no memory are evaluated by the kernel (`runN`). -/
import Derived.WalkKit
import Derived.KernelRfl
namespace Go.Proofs.Ythimamnblklkbaa
open Go Go.RowKit

/-! ### slots -/

/-- What a body's slots are: how many, what each holds. -/
structure Fs where
  n : Nat
  f : Nat → Value

def Rel (a : Array Value) (s : Fs) : Prop := a.size = s.n ∧ ∀ i, a.getD i undef = s.f i

def Fs.set (s : Fs) (d : Nat) (v : Value) : Fs := ⟨s.n, fun j => bif Nat.beq j d then v else s.f j⟩

def putS (s : Fs) (d : Option Tmp) (v : Value) : Fs :=
  match d with
  | some d => s.set d v
  | none => s

def evS (s : Fs) : Operand → Value
  | .tmp t => s.f t
  | .const v => v
  | .global g => .pointer (some ⟨g, 0, none⟩)
  | .func f => .func (.func f) #[] #[]

def yieldS (ops : Array Oper) (s : Fs) (j : Nat) : Option Bool :=
  match (ops[j]?).bind (·.dst) with
  | some d => match s.f d with
    | .bool b => some b
    | _ => none
  | none => none

def inB (d : Option Tmp) (n : Nat) : Bool :=
  match d with
  | some d => Nat.blt d n
  | none => true

theorem ev_rel {a : Array Value} {s : Fs} (h : Rel a s) : Act.eval ⟨a, []⟩ = evS s := by
  funext o
  cases o with
  | tmp t => exact h.2 t
  | const v => rfl
  | global g => rfl
  | func f => rfl

theorem yield_rel {a : Array Value} {s : Fs} (h : Rel a s) (ops : Array Oper) : yielded ops a = yieldS ops s := by
  funext j
  unfold yielded yieldS
  cases (ops[j]?).bind (·.dst) with
  | none => rfl
  | some d =>
    simp only [Option.bind_some]
    have h2 := h.2 d
    rw [← h2]
    by_cases hd : d < a.size
    · have e1 : a[d]? = some (a.getD d undef) := by simp [hd]
      rw [e1]
      generalize a.getD d undef = v
      cases v <;> rfl
    · simp [hd, undef]

theorem rel_set {a : Array Value} {s : Fs} (h : Rel a s) {d : Nat} (hd : d < s.n) (v : Value) : Rel (a.setIfInBounds d v) (s.set d v) := by
  refine ⟨by simpa [Fs.set] using h.1, fun i => ?_⟩
  have h2 := h.2 i
  have hsz := h.1
  simp only [Fs.set]
  by_cases e : i = d
  · subst e
    simp [hsz, hd]
  · have hne : Nat.beq i d = false := by
      cases hb : Nat.beq i d with
      | false => rfl
      | true => exact (e (Nat.eq_of_beq_eq_true hb)).elim
    rw [hne]
    simp only [cond_false]
    rw [← h2]
    simp only [Array.getD_eq_getD_getElem?, Array.getElem?_setIfInBounds]
    rw [if_neg (fun e' => e e'.symm)]

theorem rel_put {a : Array Value} {s : Fs} (h : Rel a s) {d : Option Tmp} (hd : inB d s.n = true) (v : Value) : ∃ a', (⟨a, []⟩ : Act).put d v = ⟨a', []⟩ ∧ Rel a' (putS s d v) := by
  cases d with
  | none => exact ⟨a, rfl, h⟩
  | some d => exact ⟨a.setIfInBounds d v, rfl, rel_set h (by simpa [inB] using hd) v⟩

/-! ### running operations -/

/-- n operations from number i on, by the model's own run; none where one does not give a value. -/
def runN (P : Program) (ops : Array Oper) : Nat → Nat → Fs → World → Option (Fs × World)
  | 0, _, s, w => some (s, w)
  | n + 1, i, s, w =>
    match ops[i]? with
    | none => none
    | some o =>
      match inB o.dst s.n with
      | false => none
      | true =>
        match Region.wanted o (yieldS ops s) with
        | true =>
          match (execOp (evS s) o).run P w with
          | .ok (.value v) w' => runN P ops n (i + 1) (putS s o.dst v) w'
          | _ => none
        | false => runN P ops n (i + 1) (putS s o.dst undef) w

def runS (P : Program) (ops : Array Oper) (n i : Nat) (s : Fs) (w : World) : Fs :=
  match runN P ops n i s w with
  | some (s', _) => s'
  | none => s

/-- A region from operation i on. (A structure: so that no elaborator looks into it.) -/
structure OpsAt (P : Program) (ops : Array Oper) (i : Nat) (s : Fs) (w : World) (K : Fs → World → Prop) : Prop where
  out : ∀ a, Rel a s → wpOps P ops (fun e a w => a.defers = [] ∧ e = .normal ∧ ∃ s', Rel a.tmps s' ∧ K s' w) (List.range' i (ops.size - i)) ⟨a, []⟩ w

section
variable {P : Program} {ops : Array Oper} {i : Nat} {s : Fs} {w : World} {K : Fs → World → Prop}

theorem ops_done (h : ops.size = i) (hk : K s w) : OpsAt P ops i s w K := by
  refine ⟨fun a ha => ?_⟩
  rw [h, Nat.sub_self]
  exact ⟨rfl, rfl, s, ha, hk⟩

theorem wp_ops_cons {o : Oper} {T : Exit → Act → World → Prop} {a : Act} (ho : ops[i]? = some o) :
    wpOps P ops T (List.range' i (ops.size - i)) a w ↔ (if Region.wanted o (yielded ops a.tmps) then o.wp P a w (fun a w => wpOps P ops T (List.range' (i + 1) (ops.size - (i + 1))) a w) T ∨
        (o.asks P a w ∧ LetsOut T)
      else wpOps P ops T (List.range' (i + 1) (ops.size - (i + 1))) (a.put o.dst undef) w) := by
  have hi : i < ops.size := (Array.getElem?_eq_some_iff.1 ho).1
  obtain ⟨k, hk⟩ : ∃ k, ops.size - i = k + 1 := ⟨ops.size - i - 1, by omega⟩
  have hk' : ops.size - (i + 1) = k := by omega
  rw [hk, hk', List.range'_succ]
  simp only [wpOps, ho]

/-- An operation that is not wanted. -/
theorem ops_unwanted {o : Oper} (ho : ops[i]? = some o) (hw : Region.wanted o (yieldS ops s) = false) (hd : inB o.dst s.n = true)
    (hk : OpsAt P ops (i + 1) (putS s o.dst undef) w K) : OpsAt P ops i s w K := by
  refine ⟨fun a ha => ?_⟩
  rw [wp_ops_cons ho]
  simp only [yield_rel ha, hw, Bool.false_eq_true, if_false]
  obtain ⟨a', e, hr⟩ := rel_put ha hd undef
  rw [e]
  exact hk.out a' hr

/-- One operation that is wanted, by what it comes to. -/
theorem ops_step {o : Oper} (ho : ops[i]? = some o) (hw : Region.wanted o (yieldS ops s) = true)
    (h : ∀ a, Rel a s → o.wp P ⟨a, []⟩ w (fun a w => a.defers = [] ∧ ∃ s', Rel a.tmps s' ∧ OpsAt P ops (i + 1) s' w K) (fun _ _ _ => False)) : OpsAt P ops i s w K := by
  refine ⟨fun a ha => ?_⟩
  rw [wp_ops_cons ho]
  simp only [yield_rel ha, hw, if_true]
  refine .inl ?_
  have h := h a ha
  unfold Oper.wp at *
  generalize (execOp (Act.eval ⟨a, []⟩) o).run P w = r at *
  have key : ∀ (x : Act) (w : World), (x.defers = [] ∧ ∃ s', Rel x.tmps s' ∧ OpsAt P ops (i + 1) s' w K) → wpOps P ops (fun e a w => a.defers = [] ∧ e = .normal ∧ ∃ s', Rel a.tmps s' ∧ K s' w) (List.range' (i + 1) (ops.size - (i + 1))) x w := by
    rintro ⟨t, d⟩ w ⟨hd, s', hr, h⟩
    simp only at hd
    subst hd
    exact h.out t hr
  cases r with
  | ok n w' =>
    cases n <;> simp only [Oper.upon] at h ⊢ <;>
      first
        | exact key _ _ h
        | exact Calls.mono h (fun e w'' he => by
            cases e with
            | returned v => exact key _ _ he
            | panicked c => exact he.elim
            | outgrown => obtain ⟨_, _, hf⟩ := he; exact hf.elim)
        | exact Rows.mono h (fun _ _ he => key _ _ he)
  | halt x w' => cases x <;> simp only [Oper.upon] at h ⊢

theorem ops_value {o : Oper} {v : Value} {w' : World} (ho : ops[i]? = some o) (hw : Region.wanted o (yieldS ops s) = true) (hd : inB o.dst s.n = true)
    (hr : (execOp (evS s) o).run P w = .ok (.value v) w') (hk : OpsAt P ops (i + 1) (putS s o.dst v) w' K) : OpsAt P ops i s w K := by
  refine ops_step ho hw fun a ha => ?_
  unfold Oper.wp
  show Oper.upon P o ⟨a, []⟩ _ _ ((execOp (Act.eval ⟨a, []⟩) o).run P w)
  rw [ev_rel ha, hr]
  show _ ∧ _
  obtain ⟨a', e, hr'⟩ := rel_put ha hd v
  rw [e]
  exact ⟨rfl, _, hr', hk⟩

theorem ops_skipped {o : Oper} {w' : World} (ho : ops[i]? = some o) (hw : Region.wanted o (yieldS ops s) = true) (hd : inB o.dst s.n = true)
    (hr : (execOp (evS s) o).run P w = .ok .skip w') (hk : OpsAt P ops (i + 1) (putS s o.dst undef) w' K) : OpsAt P ops i s w K := by
  refine ops_step ho hw fun a ha => ?_
  unfold Oper.wp
  show Oper.upon P o ⟨a, []⟩ _ _ ((execOp (Act.eval ⟨a, []⟩) o).run P w)
  rw [ev_rel ha, hr]
  show _ ∧ _
  obtain ⟨a', e, hr'⟩ := rel_put ha hd undef
  rw [e]
  exact ⟨rfl, _, hr', hk⟩

theorem ops_enter {o : Oper} {f : FuncId} {args : Array Value} {w' : World} (ho : ops[i]? = some o) (hw : Region.wanted o (yieldS ops s) = true) (hd : inB o.dst s.n = true)
    (hr : (execOp (evS s) o).run P w = .ok (.enter f args) w')
    (hc : Calls P f args w' fun e w'' => ∃ v, e = .returned v ∧ OpsAt P ops (i + 1) (putS s o.dst v) w'' K) : OpsAt P ops i s w K := by
  refine ops_step ho hw fun a ha => ?_
  unfold Oper.wp
  show Oper.upon P o ⟨a, []⟩ _ _ ((execOp (Act.eval ⟨a, []⟩) o).run P w)
  rw [ev_rel ha, hr]
  refine Calls.mono hc ?_
  rintro e w'' ⟨v, rfl, h⟩
  show _ ∧ _
  obtain ⟨a', e, hr'⟩ := rel_put ha hd v
  rw [e]
  exact ⟨rfl, _, hr', h⟩

theorem runN_ops : ∀ (n i : Nat) (s : Fs) (w : World) (s' : Fs) (w' : World), runN P ops n i s w = some (s', w') →
    OpsAt P ops (i + n) s' w' K → OpsAt P ops i s w K := by
  intro n
  induction n with
  | zero =>
    intro i s w s' w' h hk
    simp only [runN, Option.some.injEq, Prod.mk.injEq] at h
    obtain ⟨rfl, rfl⟩ := h
    exact hk
  | succ n ih =>
    intro i s w s' w' h hk
    have e : i + (n + 1) = i + 1 + n := by omega
    rw [e] at hk
    simp only [runN] at h
    cases ho : ops[i]? with
    | none => simp [ho] at h
    | some o =>
      simp only [ho] at h
      cases hd : inB o.dst s.n with
      | false => simp [hd] at h
      | true =>
        simp only [hd] at h
        cases hw : Region.wanted o (yieldS ops s) with
        | false =>
          simp only [hw] at h
          exact ops_unwanted ho hw hd (ih _ _ _ _ _ h hk)
        | true =>
          simp only [hw] at h
          split at h
          · rename_i v w1 hr
            exact ops_value ho hw hd hr (ih _ _ _ _ _ h hk)
          · cases h

/-- n operations that leave the world alone. -/
theorem ops_run (n : Nat) (h : (runN P ops n i s w).map (·.2) = some w) (hk : OpsAt P ops (i + n) (runS P ops n i s w) w K) : OpsAt P ops i s w K := by
  unfold runS at hk
  cases hr : runN P ops n i s w with
  | none => rw [hr] at h; cases h
  | some p =>
    obtain ⟨s', w'⟩ := p
    rw [hr] at h hk
    simp only [Option.map_some, Option.some.injEq] at h
    subst h
    exact runN_ops n i s _ s' _ hr hk
end

/-! ### code -/

/-- The code ends well from these slots, none of its calls deferred. -/
structure W (P : Program) (c : Code) (s : Fs) (w : World) (Q : Exit → Fs → World → Prop) : Prop where
  out : ∀ a, Rel a s → c.wp P (fun e a w => a.defers = [] ∧ ∃ s', Rel a.tmps s' ∧ Q e s' w) ⟨a, []⟩ w

/-- behind a piece that ends normally: K; else Q. -/
def seqQ (K : Fs → World → Prop) (Q : Exit → Fs → World → Prop) : Exit → Fs → World → Prop
  | .normal, s, w => K s w
  | e, s, w => Q e s w

def blockQ (id : Nat) (Q : Exit → Fs → World → Prop) : Exit → Fs → World → Prop
  | .exit id', s, w => if id' = id then Q .normal s w else Q (.exit id') s w
  | e, s, w => Q e s w

section
variable {P : Program} {s : Fs} {w : World} {Q : Exit → Fs → World → Prop}

theorem W.mono {c : Code} {Q' : Exit → Fs → World → Prop} (h : W P c s w Q) (hq : ∀ e s w, Q e s w → Q' e s w) : W P c s w Q' :=
  ⟨fun a ha => wp_mono (h.out a ha) fun _ _ _ hh => ⟨hh.1, let ⟨s', hr, hq'⟩ := hh.2; ⟨s', hr, hq _ _ _ hq'⟩⟩⟩

theorem W.seq {x y : Code} (h : ∀ K : Fs → World → Prop, (∀ s w, W P y s w Q → K s w) → W P x s w (seqQ K Q)) : W P (.seq x y) s w Q := by
  refine ⟨fun a ha => wp_seq (wp_mono ((h (fun s w => W P y s w Q) fun _ _ h => h).out a ha) ?_)⟩
  rintro e ⟨t, d⟩ w ⟨hd, s', hr, hq⟩
  simp only at hd
  subst hd
  cases e <;> first | exact W.out hq t hr | exact ⟨rfl, s', hr, hq⟩

theorem W.skip (h : Q .normal s w) : W P .skip s w Q := ⟨fun _ ha => wp_skip ⟨rfl, s, ha, h⟩⟩
theorem W.ret (h : Q .ret s w) : W P .ret s w Q := ⟨fun _ ha => wp_ret ⟨rfl, s, ha, h⟩⟩
theorem W.exit {id : Nat} (h : Q (.exit id) s w) : W P (.exit id) s w Q := ⟨fun _ ha => wp_exit ⟨rfl, s, ha, h⟩⟩

/-- what is to be shown where the code returns, or leaves a block. -/
theorem at_seq {K : Fs → World → Prop} {e : Exit} (he : e ≠ .normal) (h : Q e s w) : seqQ K Q e s w := by
  cases e <;> first | exact h | exact (he rfl).elim
theorem ret_seq {K : Fs → World → Prop} (h : Q .ret s w) : seqQ K Q .ret s w := h
theorem ret_block {id : Nat} (h : Q .ret s w) : blockQ id Q .ret s w := h
theorem exit_seq {K : Fs → World → Prop} {id : Nat} (h : Q (.exit id) s w) : seqQ K Q (.exit id) s w := h
theorem exit_here {id : Nat} (h : Q .normal s w) : blockQ id Q (.exit id) s w := by simp only [blockQ, if_true]; exact h
theorem exit_block {id id' : Nat} (hne : ¬ id' = id) (h : Q (.exit id') s w) : blockQ id Q (.exit id') s w := by simp only [blockQ, if_neg hne]; exact h
theorem normal_block {id : Nat} (h : Q .normal s w) : blockQ id Q .normal s w := h

theorem W.cond {c : Operand} {x y : Code} (b : Bool) (hc : evS s c = .bool b) (ht : b = true → W P x s w Q) (hf : b = false → W P y s w Q) : W P (.cond c x y) s w Q :=
  ⟨fun a ha => wp_cond_split (t := b) (by rw [ev_rel ha]; exact hc) (fun h => (ht h).out a ha) (fun h => (hf h).out a ha)⟩

theorem W.cond_true {c : Operand} {x y : Code} (b : Bool) (hc : evS s c = .bool b) (hb : b = true) (ht : W P x s w Q) : W P (.cond c x y) s w Q :=
  ⟨fun a ha => wp_cond_true (by subst hb; rw [ev_rel ha]; exact hc) (ht.out a ha)⟩

theorem W.cond_false {c : Operand} {x y : Code} (b : Bool) (hc : evS s c = .bool b) (hb : b = false) (hf : W P y s w Q) : W P (.cond c x y) s w Q :=
  ⟨fun a ha => wp_cond_false (by subst hb; rw [ev_rel ha]; exact hc) (hf.out a ha)⟩

theorem W.region {id : Nat} {ops : Array Oper} (h : OpsAt P ops 0 s w (Q .normal)) : W P (.region id ops false) s w Q := by
  refine ⟨fun a ha => wp_region ?_⟩
  have h := h.out a ha
  rw [Nat.sub_zero, ← List.range_eq_range'] at h
  have : ∀ (l : List Nat) (a : Act) (w : World), wpOps P ops (fun e a w => a.defers = [] ∧ e = .normal ∧ ∃ s', Rel a.tmps s' ∧ Q .normal s' w) l a w → wpOps P ops (fun e a w => a.defers = [] ∧ ∃ s', Rel a.tmps s' ∧ Q e s' w) l a w := by
    intro l
    induction l with
    | nil => intro a w h; exact ⟨h.1, h.2.2⟩
    | cons i rest ih =>
      intro a w h
      rw [wpOps_cons] at h ⊢
      unfold wpOp at *
      split
      · rename_i ho; simp only [ho] at h; exact ih _ _ h
      · rename_i o ho
        simp only [ho] at h
        split
        · rename_i hw
          simp only [hw, if_true] at h
          refine h.imp ?_ ?_
          · intro h
            refine Oper.wp_mono (fun a w h => ih a w h) ?_
            unfold Oper.wp at *
            generalize (execOp a.eval o).run P w = r at *
            cases r with
            | ok n w' =>
              cases n <;> simp only [Oper.upon] at h ⊢ <;>
                first
                  | exact h
                  | exact Calls.mono h (fun e w'' he => by
                      cases e with
                      | returned v => exact he
                      | panicked c => exact absurd he.2.1 (by simp)
                      | outgrown => obtain ⟨_, _, hf⟩ := he; exact absurd hf.2.1 (by simp))
            | halt x w' => cases x <;> simp only [Oper.upon] at h ⊢ <;> exact absurd h.2.1 (by simp)
          · rintro ⟨_, _, _, hf⟩
            exact absurd hf.2.1 (by simp)
        · rename_i hw
          simp only [hw] at h
          exact ih _ _ h
  exact this _ _ _ h

theorem W.block {id : Nat} {c : Code} (h : W P c s w (blockQ id Q)) : W P (.block id c) s w Q := by
  refine ⟨fun a ha => wp_block (wp_mono (h.out a ha) ?_)⟩
  rintro e a w ⟨hd, s', hr, hq⟩
  cases e with
  | exit id' =>
    simp only [Exit.inBlock, blockQ] at *
    split <;> rename_i hh
    · rw [if_pos hh] at hq; exact ⟨hd, s', hr, hq⟩
    · rw [if_neg hh] at hq; exact ⟨hd, s', hr, hq⟩
  | _ => exact ⟨hd, s', hr, hq⟩

/-- A loop's next round. -/
structure LoopAt (P : Program) (c : Code) (Q : Exit → Fs → World → Prop) (s : Fs) (w : World) : Prop where
  out : ∀ a, Rel a s → ∀ (b : Frame) (k : List Item) (cs : List Frame), ∃ e a' w', (a'.defers = [] ∧ ∃ s', Rel a'.tmps s' ∧ Q e s' w') ∧ Arrives P (lone (b.at ⟨a, []⟩ (.code c :: .inLoop c :: k)) cs w) b k cs e a' w'

theorem W.loop_start {c : Code} (h : LoopAt P c Q s w) : W P (.loop c) s w Q := by
  refine ⟨fun a ha => ?_⟩
  intro b k cs
  obtain ⟨e, a', w', hq, harr⟩ := h.out a ha b k cs
  exact ⟨e, a', w', hq, .of_steps (.one step_loop) harr⟩

theorem loopAt_round {c : Code} (h : W P c s w (seqQ (fun s' w' => LoopAt P c Q s' w') Q)) : LoopAt P c Q s w := by
  refine ⟨fun a ha b k cs => ?_⟩
  obtain ⟨e, ⟨t, d⟩, w₁, ⟨hd, s', hr, hq⟩, harr⟩ := h.out a ha b (.inLoop c :: k) cs
  simp only at hd
  subst hd
  cases e with
  | normal =>
    have hq' : LoopAt P c Q s' w₁ := hq
    obtain ⟨e₂, a₂, w₂, hq₂, harr₂⟩ := hq'.out t hr b k cs
    exact ⟨e₂, a₂, w₂, hq₂, .of_steps (Steps.trans harr (.one step_inLoop)) harr₂⟩
  | exit id => exact ⟨_, ⟨t, []⟩, w₁, ⟨rfl, s', hr, hq⟩, .pass (x := .inLoop c) rfl (fun _ _ => .inl (by simp)) harr⟩
  | goto l => exact ⟨_, ⟨t, []⟩, w₁, ⟨rfl, s', hr, hq⟩, .pass (x := .inLoop c) rfl (fun _ _ => .inl (by simp)) harr⟩
  | ret => exact ⟨_, ⟨t, []⟩, w₁, ⟨rfl, s', hr, hq⟩, .pass (x := .inLoop c) rfl (fun _ _ => .inl (by simp)) harr⟩
  | panic ch => exact ⟨_, ⟨t, []⟩, w₁, ⟨rfl, s', hr, hq⟩, .pass (x := .inLoop c) rfl (fun _ _ => .inl (by simp)) harr⟩
  | outgrown => exact ⟨_, ⟨t, []⟩, w₁, ⟨rfl, s', hr, hq⟩, .pass (x := .inLoop c) rfl (fun _ _ => .inl (by simp)) harr⟩

theorem loopAt_next {c : Code} (h : LoopAt P c Q s w) : seqQ (fun s' w' => LoopAt P c Q s' w') Q .normal s w := h

/-- A loop, by what holds at each round's head of some ghost value, and a number that falls. -/
theorem W.loop {c : Code} {G : Type} (I : G → Fs → World → Prop) (μ : G → Nat) (g : G) (h0 : I g s w)
    (round : ∀ g s w, I g s w → W P c s w (seqQ (fun s' w' => ∃ g', I g' s' w' ∧ μ g' < μ g) Q)) : W P (.loop c) s w Q := by
  refine W.loop_start ?_
  have key : ∀ n g s w, μ g = n → I g s w → LoopAt P c Q s w := by
    intro n
    induction n using Nat.strongRecOn with
    | _ n ih =>
      intro g s w hn hI
      refine loopAt_round ((round g s w hI).mono ?_)
      intro e s' w' h
      cases e with
      | normal =>
        obtain ⟨g', hg', hlt⟩ := h
        exact ih (μ g') (hn ▸ hlt) g' s' w' rfl hg'
      | _ => exact h
  exact key _ g s w rfl h0

/-- A slot's value written out. -/
theorem setS (i : Nat) {v : Value} (h : s.f i = v) : s.set i v = s := by
  subst h
  cases s with
  | mk n f =>
    simp only [Fs.set, Fs.mk.injEq, true_and]
    funext j
    cases hb : Nat.beq j i with
    | false => rfl
    | true => rw [Nat.eq_of_beq_eq_true hb]; rfl

theorem W.set {c : Code} (i : Nat) {v : Value} (h : s.f i = v) (hk : W P c (s.set i v) w Q) : W P c s w Q := by
  rwa [setS i h] at hk

theorem ops_set {ops : Array Oper} {j : Nat} {K : Fs → World → Prop} (i : Nat) {v : Value} (h : s.f i = v) (hk : OpsAt P ops j (s.set i v) w K) : OpsAt P ops j s w K := by
  rwa [setS i h] at hk
end

/-- what a list says of a slot; else d. -/
def look : List (Nat × Value) → Nat → Value → Value
  | [], _, d => d
  | (j, v) :: r, i, d => bif Nat.beq i j then v else look r i d

def slots (n : Nat) (l : List (Nat × Value)) (us : Nat → Value) : Fs := ⟨n, fun i => look l i (us i)⟩

theorem look_self : ∀ (l : List (Nat × Value)) (f : Nat → Value), (l.map fun p => f p.1) = l.map (·.2) → ∀ i, look l i (f i) = f i
  | [], _, _, _ => rfl
  | (j, v) :: r, f, h, i => by
    simp only [List.map_cons, List.cons.injEq] at h
    unfold look
    cases hb : Nat.beq i j with
    | false => exact look_self r f h.2 i
    | true =>
      have e := Nat.eq_of_beq_eq_true hb
      subst e
      exact h.1.symm

theorem slots_intro {n : Nat} {l : List (Nat × Value)} (s : Fs) (h : (s.n, l.map fun p => s.f p.1) = (n, l.map (·.2))) : ∃ us, s = slots n l us := by
  cases s with
  | mk m f =>
    simp only [Prod.mk.injEq] at h
    obtain ⟨rfl, h⟩ := h
    refine ⟨f, ?_⟩
    unfold slots
    congr 1
    funext i
    exact (look_self l f h i).symm

/-- what the function hands back. -/
def resS (fn : Func) (s : Fs) : Sem Value := do
  let vs ← fn.results.mapM fun
    | .tmp t => pure (s.f t)
    | .cell a t => do loadVar t (← asAddr (s.f a))
  pure (if h : vs.size = 1 then vs[0] else .tuple vs)

theorem res_rel {a : Array Value} {s : Fs} (h : Rel a s) (fn : Func) : results fn a = resS fn s := by
  unfold results resS
  congr 1
  congr 1
  funext x
  cases x with
  | tmp t => simp only [h.2]
  | cell b t => simp only [h.2]

/-- what the function hands back, and the world then. -/
def retQ (P : Program) (fn : Func) (R : Value → World → Prop) : Exit → Fs → World → Prop
  | .normal, s, w | .ret, s, w => ∃ v, (resS fn s).run P w = .ok v w ∧ R v w
  | _, _, _ => False

/-- a body's slots at its beginning. -/
def initF (n : Nat) (args : Array Value) : Fs := ⟨args.size + (n - args.size), fun i => args.getD i undef⟩

theorem init_rel (n : Nat) (args : Array Value) : Rel (args ++ Array.replicate (n - args.size) undef) (initF n args) := by
  refine ⟨by simp [initF], fun i => ?_⟩
  simp only [initF, Array.getD_eq_getD_getElem?]
  by_cases h : i < args.size
  · simp [Array.getElem?_append_left h]
  · rw [Array.getElem?_append_right (by omega), Array.getElem?_replicate]
    split <;> simp [h]

theorem calls_W {P : Program} {f : FuncId} {fn : Func} {c : Code} {args : Array Value} {w : World} {R : Value → World → Prop}
    (hf : P.funcs[f]? = some fn) (hb : fn.body = some c) (h : W P c (initF fn.ntmps args) w (retQ P fn R)) :
    Calls P f args w (fun e w' => ∃ v, e = .returned v ∧ R v w') := by
  refine calls_of_wp hf hb (wp_mono (h.out _ (init_rel _ _)) ?_)
  rintro e a w ⟨hd, s', hr, hq⟩
  cases e with
  | normal => obtain ⟨v, hv, hR⟩ := hq; exact ⟨hd, v, by rw [res_rel hr]; exact hv, v, rfl, hR⟩
  | ret => obtain ⟨v, hv, hR⟩ := hq; exact ⟨hd, v, by rw [res_rel hr]; exact hv, v, rfl, hR⟩
  | _ => exact hq.elim

end Go.Proofs.Ythimamnblklkbaa
