/- The core of this seat's proofs: a small separation logic over the walk's `Calls` and `Code.wp`; a body's slots are told by a function; operations that touch no memory are evaluated by the kernel (`runN`). -/
import Derived.WalkKit
import Derived.KernelRfl
import Derived.RangeFuncIn
import Derived.RangeFuncLeaves
import Derived.RangeFuncRecord
namespace Go.Proofs.YthimamnblklkbaaDoor
open Go Go.RowKit

/-! ### slots -/

/-- What a body's slots are: how many, what each holds; the loop whose round the frame is; its deferred calls. -/
structure Fs where
  n : Nat
  f : Nat → Value
  r : Option Nat
  d : List Deferred

def fen (r : Option Nat) : Fence := { Fence.wide with round := r }

def Rel (x : Act) (s : Fs) : Prop := (x.tmps.size = s.n ∧ x.defers = s.d) ∧ ∀ i, x.tmps.getD i undef = s.f i

def Fs.set (s : Fs) (d : Nat) (v : Value) : Fs := ⟨s.n, fun j => bif Nat.beq j d then v else s.f j, s.r, s.d⟩

def putS (s : Fs) (d : Option Tmp) (v : Value) : Fs :=
  match d with
  | some d => s.set d v
  | none => s

def evS (s : Fs) : Operand → Value
  | .tmp t => s.f t
  | .const v => v
  | .global g => .pointer (some ⟨g, 0, none⟩)
  | .func f => .func (.func f) #[] #[]

def yieldS (ops : Array Oper) (s : Fs) (j : Nat) : Option Bool :=
  match (ops[j]?).bind (·.dst) with
  | some d => match s.f d with
    | .bool b => some b
    | _ => none
  | none => none

def inB (d : Option Tmp) (n : Nat) : Bool :=
  match d with
  | some d => Nat.blt d n
  | none => true

theorem ev_rel {x : Act} {s : Fs} (h : Rel x s) : x.eval = evS s := by
  funext o
  cases o with
  | tmp t => exact h.2 t
  | const v => rfl
  | global g => rfl
  | func f => rfl

theorem yield_rel {x : Act} {s : Fs} (h : Rel x s) (ops : Array Oper) : yielded ops x.tmps = yieldS ops s := by
  funext j
  unfold yielded yieldS
  cases (ops[j]?).bind (·.dst) with
  | none => rfl
  | some d =>
    simp only [Option.bind_some]
    have h2 := h.2 d
    rw [← h2]
    by_cases hd : d < x.tmps.size
    · have e1 : x.tmps[d]? = some (x.tmps.getD d undef) := by simp [hd]
      rw [e1]
      generalize x.tmps.getD d undef = v
      cases v <;> rfl
    · simp [hd, undef]

theorem rel_set {a : Array Value} {n : Nat} {f : Nat → Value} (h1 : a.size = n) (h : ∀ i, a.getD i undef = f i) {d : Nat} (hd : d < n) (v : Value) :
    (a.setIfInBounds d v).size = n ∧ ∀ i, (a.setIfInBounds d v).getD i undef = bif Nat.beq i d then v else f i := by
  refine ⟨by simpa using h1, fun i => ?_⟩
  have h2 := h i
  by_cases e : i = d
  · subst e
    simp [h1, hd]
  · have hne : Nat.beq i d = false := by
      cases hb : Nat.beq i d with
      | false => rfl
      | true => exact (e (Nat.eq_of_beq_eq_true hb)).elim
    rw [hne]
    simp only [cond_false]
    rw [← h2]
    simp only [Array.getD_eq_getD_getElem?, Array.getElem?_setIfInBounds]
    rw [if_neg (fun e' => e e'.symm)]

theorem rel_put {x : Act} {s : Fs} (h : Rel x s) {d : Option Tmp} (hd : inB d s.n = true) (v : Value) : Rel (x.put d v) (putS s d v) := by
  cases d with
  | none => exact h
  | some d =>
    obtain ⟨⟨h1, h3⟩, h2⟩ := h
    have := rel_set h1 h2 (d := d) (by simpa [inB] using hd) v
    exact ⟨⟨this.1, h3⟩, this.2⟩

/-! ### running operations -/

/-- n operations from number i on, by the model's own run; none where one does not give a value. -/
def runN (P : Program) (ops : Array Oper) : Nat → Nat → Fs → World → Option (Fs × World)
  | 0, _, s, w => some (s, w)
  | n + 1, i, s, w =>
    match ops[i]? with
    | none => none
    | some o =>
      match inB o.dst s.n with
      | false => none
      | true =>
        match Region.wanted o (yieldS ops s) with
        | true =>
          match (execOp (evS s) o).run P w with
          | .ok (.value v) w' => runN P ops n (i + 1) (putS s o.dst v) w'
          | _ => none
        | false => runN P ops n (i + 1) (putS s o.dst undef) w

def runS (P : Program) (ops : Array Oper) (n i : Nat) (s : Fs) (w : World) : Fs :=
  match runN P ops n i s w with
  | some (s', _) => s'
  | none => s

/-- some operations, plainly or within a fence. -/
def wpM (M : Bool) (r : Option Nat) (P : Program) (ops : Array Oper) (T : Exit → Act → World → Prop) (l : List Nat) (x : Act) (w : World) : Prop :=
  match M with
  | false => wpOps P ops T l x w
  | true => wpOpsIn (fen r) 0 P ops T l x w

/-- A region from operation i on. (A structure: so that no elaborator looks into it.) -/
structure OpsAt (M : Bool) (P : Program) (ops : Array Oper) (i : Nat) (s : Fs) (w : World) (K : Fs → World → Prop) : Prop where
  out : ∀ x, Rel x s → ∀ T : Exit → Act → World → Prop, (∀ y w', (∃ s', Rel y s' ∧ s'.r = s.r ∧ K s' w') → T .normal y w') → wpM M s.r P ops T (List.range' i (ops.size - i)) x w

section
variable {M : Bool} {P : Program} {ops : Array Oper} {i : Nat} {s : Fs} {w : World} {K : Fs → World → Prop}

theorem put_r (s : Fs) (d : Option Tmp) (v : Value) : (putS s d v).r = s.r := by cases d <;> rfl

theorem ops_done (h : ops.size = i) (hk : K s w) : OpsAt M P ops i s w K := by
  refine ⟨fun x hx T hT => ?_⟩
  rw [h, Nat.sub_self]
  cases M <;> exact hT x w ⟨s, hx, rfl, hk⟩

theorem range_cons {o : Oper} (ho : ops[i]? = some o) : List.range' i (ops.size - i) = i :: List.range' (i + 1) (ops.size - (i + 1)) := by
  have hi : i < ops.size := (Array.getElem?_eq_some_iff.1 ho).1
  obtain ⟨k, hk⟩ : ∃ k, ops.size - i = k + 1 := ⟨ops.size - i - 1, by omega⟩
  have hk' : ops.size - (i + 1) = k := by omega
  rw [hk, hk', List.range'_succ]

theorem fen_fn {r : Option Nat} {g : Nat} : (fen r).fn g := trivial
theorem fen_depth {r : Option Nat} : (fen r).depth.isSome = true → 1 ≤ 0 := fun h => by cases h

/-- An operation that is not wanted. -/
theorem ops_unwanted {o : Oper} (ho : ops[i]? = some o) (hw : Region.wanted o (yieldS ops s) = false) (hd : inB o.dst s.n = true)
    (hk : OpsAt M P ops (i + 1) (putS s o.dst undef) w K) : OpsAt M P ops i s w K := by
  refine ⟨fun x hx T hT => ?_⟩
  rw [range_cons ho]
  have h := hk.out _ (rel_put hx hd undef) T (fun y w' ⟨s', h1, h2, h3⟩ => hT y w' ⟨s', h1, h2.trans (put_r _ _ _), h3⟩)
  rw [put_r] at h
  cases M with
  | false =>
    simp only [wpM, wpOps, ho, yield_rel hx, hw, Bool.false_eq_true, if_false] at h ⊢
    exact h
  | true =>
    simp only [wpM, wpOpsIn, ho, yield_rel hx, hw, Bool.false_eq_true, if_false] at h ⊢
    exact ⟨fun _ _ => trivial, h⟩

theorem not_defer {ρ : Operand → Value} {o : Oper} {n : Next} {w' : World} (hr : (execOp ρ o).run P w = .ok n w') (hn : ∀ d, n ≠ .defer d) (c : Call) : o.op ≠ .defer c := by
  intro hop
  simp only [execOp, hop, Sem.run_bind] at hr
  cases hq : (resolve ρ c o.type).run P w with
  | ok d w1 =>
    rw [hq] at hr
    simp only [Result.andThen_ok, Sem.run_pure, Result.ok.injEq] at hr
    exact hn d hr.1.symm
  | halt x w1 => rw [hq] at hr; cases hr

theorem ops_value {o : Oper} {v : Value} {w' : World} (ho : ops[i]? = some o) (hw : Region.wanted o (yieldS ops s) = true) (hd : inB o.dst s.n = true)
    (hr : (execOp (evS s) o).run P w = .ok (.value v) w') (hk : OpsAt M P ops (i + 1) (putS s o.dst v) w' K) : OpsAt M P ops i s w K := by
  refine ⟨fun x hx T hT => ?_⟩
  rw [range_cons ho]
  have h := hk.out _ (rel_put hx hd v) T (fun y w' ⟨s', h1, h2, h3⟩ => hT y w' ⟨s', h1, h2.trans (put_r _ _ _), h3⟩)
  rw [put_r] at h
  rw [← ev_rel hx] at hr
  cases M with
  | false =>
    simp only [wpM, wpOps, ho, yield_rel hx, hw, if_true] at h ⊢
    refine .inl ?_
    unfold Oper.wp
    rw [hr]
    exact h
  | true =>
    simp only [wpM, wpOpsIn, ho, yield_rel hx, hw, if_true] at h ⊢
    refine ⟨fun _ _ => trivial, ?_⟩
    rw [Oper.semAt_eq _ _ _ (not_defer hr (by simp)), hr]
    exact h

theorem ops_skipped {o : Oper} {w' : World} (ho : ops[i]? = some o) (hw : Region.wanted o (yieldS ops s) = true) (hd : inB o.dst s.n = true)
    (hr : (execOp (evS s) o).run P w = .ok .skip w') (hk : OpsAt M P ops (i + 1) (putS s o.dst undef) w' K) : OpsAt M P ops i s w K := by
  refine ⟨fun x hx T hT => ?_⟩
  rw [range_cons ho]
  have h := hk.out _ (rel_put hx hd undef) T (fun y w' ⟨s', h1, h2, h3⟩ => hT y w' ⟨s', h1, h2.trans (put_r _ _ _), h3⟩)
  rw [put_r] at h
  rw [← ev_rel hx] at hr
  cases M with
  | false =>
    simp only [wpM, wpOps, ho, yield_rel hx, hw, if_true] at h ⊢
    refine .inl ?_
    unfold Oper.wp
    rw [hr]
    exact h
  | true =>
    simp only [wpM, wpOpsIn, ho, yield_rel hx, hw, if_true] at h ⊢
    refine ⟨fun _ _ => trivial, ?_⟩
    rw [Oper.semAt_eq _ _ _ (not_defer hr (by simp)), hr]
    exact h

theorem calls_fen {r : Option Nat} {f : FuncId} {args : Array Value} {w : World} {R : Ending → World → Prop} (h : Calls P f args w R) : CallsIn (fen r) 0 P f args w R :=
  callsIn_wide (n := 0).2 h

theorem ops_enter {o : Oper} {f : FuncId} {args : Array Value} {w' : World} (ho : ops[i]? = some o) (hw : Region.wanted o (yieldS ops s) = true) (hd : inB o.dst s.n = true)
    (hr : (execOp (evS s) o).run P w = .ok (.enter f args) w')
    (hc : Calls P f args w' fun e w'' => ∃ v, e = .returned v ∧ OpsAt M P ops (i + 1) (putS s o.dst v) w'' K) : OpsAt M P ops i s w K := by
  refine ⟨fun x hx T hT => ?_⟩
  rw [range_cons ho]
  have next : ∀ v w'', OpsAt M P ops (i + 1) (putS s o.dst v) w'' K → wpM M s.r P ops T (List.range' (i + 1) (ops.size - (i + 1))) (x.put o.dst v) w'' := by
    intro v w'' hk
    have h := hk.out _ (rel_put hx hd v) T (fun y w' ⟨s', h1, h2, h3⟩ => hT y w' ⟨s', h1, h2.trans (put_r _ _ _), h3⟩)
    rwa [put_r] at h
  rw [← ev_rel hx] at hr
  cases M with
  | false =>
    simp only [wpM, wpOps, ho, yield_rel hx, hw, if_true]
    refine .inl ?_
    unfold Oper.wp
    rw [hr]
    refine Calls.mono hc ?_
    rintro e w'' ⟨v, rfl, h⟩
    exact next v w'' h
  | true =>
    simp only [wpM, wpOpsIn, ho, yield_rel hx, hw, if_true]
    refine ⟨fun _ _ => trivial, ?_⟩
    rw [Oper.semAt_eq _ _ _ (not_defer hr (by simp)), hr]
    refine ⟨fen_depth, calls_fen (Calls.mono hc ?_)⟩
    rintro e w'' ⟨v, rfl, h⟩
    exact next v w'' h

theorem runN_ops : ∀ (n i : Nat) (s : Fs) (w : World) (s' : Fs) (w' : World), runN P ops n i s w = some (s', w') →
    OpsAt M P ops (i + n) s' w' K → OpsAt M P ops i s w K := by
  intro n
  induction n with
  | zero =>
    intro i s w s' w' h hk
    simp only [runN, Option.some.injEq, Prod.mk.injEq] at h
    obtain ⟨rfl, rfl⟩ := h
    exact hk
  | succ n ih =>
    intro i s w s' w' h hk
    have e : i + (n + 1) = i + 1 + n := by omega
    rw [e] at hk
    simp only [runN] at h
    cases ho : ops[i]? with
    | none => simp [ho] at h
    | some o =>
      simp only [ho] at h
      cases hd : inB o.dst s.n with
      | false => simp [hd] at h
      | true =>
        simp only [hd] at h
        cases hw : Region.wanted o (yieldS ops s) with
        | false =>
          simp only [hw] at h
          exact ops_unwanted ho hw hd (ih _ _ _ _ _ h hk)
        | true =>
          simp only [hw] at h
          split at h
          · rename_i v w1 hr
            exact ops_value ho hw hd hr (ih _ _ _ _ _ h hk)
          · cases h

/-- n operations that leave the world alone. -/
theorem ops_run (n : Nat) (h : (runN P ops n i s w).map (·.2) = some w) (hk : OpsAt M P ops (i + n) (runS P ops n i s w) w K) : OpsAt M P ops i s w K := by
  unfold runS at hk
  cases hr : runN P ops n i s w with
  | none => rw [hr] at h; cases h
  | some p =>
    obtain ⟨s', w'⟩ := p
    rw [hr] at h hk
    simp only [Option.map_some, Option.some.injEq] at h
    subst h
    exact runN_ops n i s _ s' _ hr hk
end

/-! ### code -/

/-- The code ends well from these slots. -/
structure W (P : Program) (c : Code) (s : Fs) (w : World) (Q : Exit → Fs → World → Prop) : Prop where
  out : ∀ x, Rel x s → c.wpIn (fen s.r) 0 P (fun e x w => ∃ s', Rel x s' ∧ s'.r = s.r ∧ Q e s' w) x w

/-- behind a piece that ends normally: K; else Q. -/
def seqQ (K : Fs → World → Prop) (Q : Exit → Fs → World → Prop) : Exit → Fs → World → Prop
  | .normal, s, w => K s w
  | e, s, w => Q e s w

def blockQ (id : Nat) (Q : Exit → Fs → World → Prop) : Exit → Fs → World → Prop
  | .exit id', s, w => if id' = id then Q .normal s w else Q (.exit id') s w
  | e, s, w => Q e s w

section
variable {P : Program} {s : Fs} {w : World} {Q : Exit → Fs → World → Prop}

theorem W.mono {c : Code} {Q' : Exit → Fs → World → Prop} (h : W P c s w Q) (hq : ∀ e s w, Q e s w → Q' e s w) : W P c s w Q' :=
  ⟨fun x hx => wpIn_mono (h.out x hx) fun _ _ _ ⟨s', h1, h2, h3⟩ => ⟨s', h1, h2, hq _ _ _ h3⟩⟩

theorem W.seq {x y : Code} (h : ∀ K : Fs → World → Prop, (∀ s w, W P y s w Q → K s w) → W P x s w (seqQ K Q)) : W P (.seq x y) s w Q := by
  refine ⟨fun a ha => wpIn_seq (wpIn_mono ((h (fun s w => W P y s w Q) fun _ _ h => h).out a ha) ?_)⟩
  rintro e x w ⟨s', hr, hs, hq⟩
  cases e with
  | normal =>
    have h := W.out (s := s') hq x hr
    rw [hs] at h
    exact h
  | _ => exact ⟨s', hr, hs, hq⟩

theorem W.skip (h : Q .normal s w) : W P .skip s w Q := ⟨fun _ hx => wpIn_skip ⟨s, hx, rfl, h⟩⟩
theorem W.ret (h : Q .ret s w) : W P .ret s w Q := ⟨fun _ hx => wpIn_ret ⟨s, hx, rfl, h⟩⟩
theorem W.exit {id : Nat} (h : Q (.exit id) s w) : W P (.exit id) s w Q := ⟨fun _ hx => wpIn_exit ⟨s, hx, rfl, h⟩⟩

/-- what is to be shown where the code returns, or leaves a block. -/
theorem at_seq {K : Fs → World → Prop} {e : Exit} (he : e ≠ .normal) (h : Q e s w) : seqQ K Q e s w := by
  cases e <;> first | exact h | exact (he rfl).elim
theorem ret_seq {K : Fs → World → Prop} (h : Q .ret s w) : seqQ K Q .ret s w := h
theorem ret_block {id : Nat} (h : Q .ret s w) : blockQ id Q .ret s w := h
theorem exit_seq {K : Fs → World → Prop} {id : Nat} (h : Q (.exit id) s w) : seqQ K Q (.exit id) s w := h
theorem exit_here {id : Nat} (h : Q .normal s w) : blockQ id Q (.exit id) s w := by simp only [blockQ, if_true]; exact h
theorem exit_block {id id' : Nat} (hne : ¬ id' = id) (h : Q (.exit id') s w) : blockQ id Q (.exit id') s w := by simp only [blockQ, if_neg hne]; exact h
theorem normal_block {id : Nat} (h : Q .normal s w) : blockQ id Q .normal s w := h

theorem W.cond {c : Operand} {x y : Code} (b : Bool) (hc : evS s c = .bool b) (ht : b = true → W P x s w Q) (hf : b = false → W P y s w Q) : W P (.cond c x y) s w Q :=
  ⟨fun a ha => wpIn_cond_split (t := b) (by rw [ev_rel ha]; exact hc) (fun h => (ht h).out a ha) (fun h => (hf h).out a ha)⟩

theorem W.cond_true {c : Operand} {x y : Code} (b : Bool) (hc : evS s c = .bool b) (hb : b = true) (ht : W P x s w Q) : W P (.cond c x y) s w Q :=
  ⟨fun a ha => wpIn_cond_true (by subst hb; rw [ev_rel ha]; exact hc) (ht.out a ha)⟩

theorem W.cond_false {c : Operand} {x y : Code} (b : Bool) (hc : evS s c = .bool b) (hb : b = false) (hf : W P y s w Q) : W P (.cond c x y) s w Q :=
  ⟨fun a ha => wpIn_cond_false (by subst hb; rw [ev_rel ha]; exact hc) (hf.out a ha)⟩

theorem W.region {id : Nat} {ops : Array Oper} (h : OpsAt true P ops 0 s w (Q .normal)) : W P (.region id ops false) s w Q := by
  refine ⟨fun x hx => wpIn_region ?_⟩
  have h0 := h.out x hx (fun e x w => ∃ s', Rel x s' ∧ s'.r = s.r ∧ Q e s' w) (fun y w' h => h)
  rw [Nat.sub_zero, ← List.range_eq_range'] at h0
  exact h0

theorem W.block {id : Nat} {c : Code} (h : W P c s w (blockQ id Q)) : W P (.block id c) s w Q := by
  refine ⟨fun x hx => wpIn_block (wpIn_mono (h.out x hx) ?_)⟩
  rintro e a w ⟨s', hr, hs, hq⟩
  cases e with
  | exit id' =>
    simp only [Exit.inBlock, blockQ] at *
    split <;> rename_i hh
    · rw [if_pos hh] at hq; exact ⟨s', hr, hs, hq⟩
    · rw [if_neg hh] at hq; exact ⟨s', hr, hs, hq⟩
  | _ => exact ⟨s', hr, hs, hq⟩

/-- A loop's next round. -/
structure LoopAt (P : Program) (c : Code) (Q : Exit → Fs → World → Prop) (s : Fs) (w : World) : Prop where
  out : ∀ x, Rel x s → ∀ (b : Frame) (k : List Item) (cs : List Frame), b.roundOf = s.r →
    ∃ e a' w', (∃ s', Rel a' s' ∧ s'.r = s.r ∧ Q e s' w') ∧ ArrivesIn (Machine.fenced P (fen s.r)) P (lone (b.atR x (.code c :: .inLoop c :: k)) cs w) b k cs e a' w'

theorem room_fen {r : Option Nat} (n : Nat) : (fen r).room n := fun _ h => by cases h

theorem W.loop_start {c : Code} (h : LoopAt P c Q s w) : W P (.loop c) s w Q := by
  refine ⟨fun x hx => ?_⟩
  intro b k cs hro hb hr
  obtain ⟨e, a', w', hq, harr⟩ := h.out x hx b k cs hro
  exact ⟨e, a', w', hq, .of_steps (.one (fenced_calm hb hr rfl) stepR_loop) harr⟩

theorem loopAt_round {c : Code} (h : W P c s w (seqQ (fun s' w' => LoopAt P c Q s' w') Q)) : LoopAt P c Q s w := by
  refine ⟨fun x hx b k cs hro => ?_⟩
  obtain ⟨e, t, w₁, ⟨s', hr, hs, hq⟩, harr⟩ := h.out x hx b (.inLoop c :: k) cs hro trivial (room_fen _)
  cases e with
  | normal =>
    have hq' : LoopAt P c Q s' w₁ := hq
    obtain ⟨e₂, a₂, w₂, ⟨s₂, h1, h2, h3⟩, harr₂⟩ := hq'.out t hr b k cs (hro.trans hs.symm)
    rw [hs] at harr₂ h2
    exact ⟨e₂, a₂, w₂, ⟨s₂, h1, h2, h3⟩, .of_steps (StepsIn.trans harr (.one (fenced_calm (F := fen s.r) (n := 0) trivial (room_fen _) rfl) stepR_inLoop)) harr₂⟩
  | exit id => exact ⟨_, t, w₁, ⟨s', hr, hs, hq⟩, .pass (x := .inLoop c) rfl (fun _ _ => .inl (by simp)) harr⟩
  | goto l => exact ⟨_, t, w₁, ⟨s', hr, hs, hq⟩, .pass (x := .inLoop c) rfl (fun _ _ => .inl (by simp)) harr⟩
  | ret => exact ⟨_, t, w₁, ⟨s', hr, hs, hq⟩, .pass (x := .inLoop c) rfl (fun _ _ => .inl (by simp)) harr⟩
  | panic ch => exact ⟨_, t, w₁, ⟨s', hr, hs, hq⟩, .pass (x := .inLoop c) rfl (fun _ _ => .inl (by simp)) harr⟩
  | outgrown => exact ⟨_, t, w₁, ⟨s', hr, hs, hq⟩, .pass (x := .inLoop c) rfl (fun _ _ => .inl (by simp)) harr⟩

theorem loopAt_next {c : Code} (h : LoopAt P c Q s w) : seqQ (fun s' w' => LoopAt P c Q s' w') Q .normal s w := h

/-- A loop, by what holds at each round's head of some ghost value, and a number that falls. -/
theorem W.loop {c : Code} {G : Type} (I : G → Fs → World → Prop) (μ : G → Nat) (g : G) (h0 : I g s w)
    (round : ∀ g s w, I g s w → W P c s w (seqQ (fun s' w' => ∃ g', I g' s' w' ∧ μ g' < μ g) Q)) : W P (.loop c) s w Q := by
  refine W.loop_start ?_
  have key : ∀ n g s w, μ g = n → I g s w → LoopAt P c Q s w := by
    intro n
    induction n using Nat.strongRecOn with
    | _ n ih =>
      intro g s w hn hI
      refine loopAt_round ((round g s w hI).mono ?_)
      intro e s' w' h
      cases e with
      | normal =>
        obtain ⟨g', hg', hlt⟩ := h
        exact ih (μ g') (hn ▸ hlt) g' s' w' rfl hg'
      | _ => exact h
  exact key _ g s w rfl h0

/-- A slot's value written out. -/
theorem setS (i : Nat) {v : Value} (h : s.f i = v) : s.set i v = s := by
  subst h
  cases s with
  | mk n f r d =>
    simp only [Fs.set, Fs.mk.injEq, true_and, and_true]
    funext j
    cases hb : Nat.beq j i with
    | false => rfl
    | true => rw [Nat.eq_of_beq_eq_true hb]; rfl

theorem W.set {c : Code} (i : Nat) {v : Value} (h : s.f i = v) (hk : W P c (s.set i v) w Q) : W P c s w Q := by
  rwa [setS i h] at hk

theorem ops_set {M : Bool} {ops : Array Oper} {j : Nat} {K : Fs → World → Prop} (i : Nat) {v : Value} (h : s.f i = v) (hk : OpsAt M P ops j (s.set i v) w K) : OpsAt M P ops j s w K := by
  rwa [setS i h] at hk
end

/-- what a list says of a slot; else d. -/
def look : List (Nat × Value) → Nat → Value → Value
  | [], _, d => d
  | (j, v) :: r, i, d => bif Nat.beq i j then v else look r i d

def slotsD (n : Nat) (l : List (Nat × Value)) (us : Nat → Value) (r : Option Nat) (d : List Deferred) : Fs := ⟨n, fun i => look l i (us i), r, d⟩
def slots (n : Nat) (l : List (Nat × Value)) (us : Nat → Value) : Fs := slotsD n l us none []

theorem look_self : ∀ (l : List (Nat × Value)) (f : Nat → Value), (l.map fun p => f p.1) = l.map (·.2) → ∀ i, look l i (f i) = f i
  | [], _, _, _ => rfl
  | (j, v) :: r, f, h, i => by
    simp only [List.map_cons, List.cons.injEq] at h
    unfold look
    cases hb : Nat.beq i j with
    | false => exact look_self r f h.2 i
    | true =>
      have e := Nat.eq_of_beq_eq_true hb
      subst e
      exact h.1.symm

theorem slotsD_intro {n : Nat} {l : List (Nat × Value)} {r : Option Nat} {d : List Deferred} (s : Fs) (h : ((s.n, s.r, s.d), l.map fun p => s.f p.1) = ((n, r, d), l.map (·.2))) : ∃ us, s = slotsD n l us r d := by
  cases s with
  | mk m f r' d' =>
    simp only [Prod.mk.injEq] at h
    obtain ⟨⟨rfl, rfl, rfl⟩, h⟩ := h
    refine ⟨f, ?_⟩
    unfold slotsD
    congr 1
    funext i
    exact (look_self l f h i).symm

theorem slots_intro {n : Nat} {l : List (Nat × Value)} (s : Fs) (h : ((s.n, s.r, s.d), l.map fun p => s.f p.1) = ((n, none, []), l.map (·.2))) : ∃ us, s = slots n l us := slotsD_intro s h

/-- what the function hands back. -/
def resF (s : Fs) : ResultVar → Sem Value
  | .tmp t => pure (s.f t)
  | .cell a t => do loadVar t (← asAddr (s.f a))
def resD (fn : Func) (s : Fs) : Sem Value := do
  let vs ← fn.results.mapM (resF s)
  pure (if h : vs.size = 1 then vs[0] else .tuple vs)
/-- .. where no call is deferred. -/
def resS (fn : Func) (s : Fs) : Sem Value :=
  match s.d with
  | [] => resD fn s
  | _ => stuck "deferred"

theorem res_rel {x : Act} {s : Fs} (h : Rel x s) (fn : Func) : results fn x.tmps = resD fn s := by
  unfold results resD
  congr 1
  congr 1
  funext y
  cases y with
  | tmp t => simp only [h.2, resF]
  | cell b t => simp only [h.2, resF]

/-- what the function hands back, and the world then, when its marks are taken. -/
def leaveQ (P : Program) (fn : Func) (R : Value → World → Prop) (s : Fs) : List Deferred → World → Prop
  | [], w => ∃ v, (resD fn s).run P w = .ok v w ∧ R v w
  | d :: ds, w => ∃ D w', d.target = .collected D ∧ (Instr.takeDeferred D).run P w = .ok [] w' ∧ leaveQ P fn R s ds w'

structure Leave (P : Program) (fn : Func) (R : Value → World → Prop) (s : Fs) (w : World) : Prop where
  out : leaveQ P fn R s s.d w

def retQ (P : Program) (fn : Func) (R : Value → World → Prop) : Exit → Fs → World → Prop
  | .normal, s, w | .ret, s, w => Leave P fn R s w
  | _, _, _ => False

theorem leave_of {P : Program} {fn : Func} {R : Value → World → Prop} {s : Fs} {w : World} {v : Value} (h : (resS fn s).run P w = .ok v w) (hR : R v w) : Leave P fn R s w := by
  unfold resS at h
  split at h
  · rename_i hd; refine ⟨?_⟩; rw [hd]; exact ⟨v, h, hR⟩
  · cases h

theorem leaves_rel {P : Program} {fn : Func} {R : Value → World → Prop} {s : Fs} {x : Act} (hx : Rel x s) : ∀ (ds : List Deferred) (w : World), leaveQ P fn R s ds w →
    LeavesInM Fence.wide 0 P fn x.tmps (fun e w' => ∃ v, e = .returned v ∧ R v w') ds .returning w
  | [], w, ⟨v, h, hR⟩ => ⟨v, by rw [res_rel hx]; exact h, v, rfl, hR⟩
  | d :: ds, w, ⟨D, w', h1, h2, h3⟩ => ⟨by simp, .inl ⟨D, w', h1, h2, leaves_rel hx ds w' h3⟩⟩

/-- a body's slots at its beginning. -/
def initF (n : Nat) (args : Array Value) : Fs := ⟨args.size + (n - args.size), fun i => args.getD i undef, none, []⟩

theorem init_rel (n : Nat) (args : Array Value) : Rel ⟨args ++ Array.replicate (n - args.size) undef, []⟩ (initF n args) := by
  refine ⟨⟨by simp [initF], rfl⟩, fun i => ?_⟩
  simp only [initF, Array.getD_eq_getD_getElem?]
  by_cases h : i < args.size
  · simp [Array.getElem?_append_left h]
  · rw [Array.getElem?_append_right (by omega), Array.getElem?_replicate]
    split <;> simp [h]

theorem calls_W {P : Program} {f : FuncId} {fn : Func} {c : Code} {args : Array Value} {w : World} {R : Value → World → Prop}
    (hf : P.funcs[f]? = some fn) (hb : fn.body = some c) (h : W P c (initF fn.ntmps args) w (retQ P fn R)) :
    Calls P f args w (fun e w' => ∃ v, e = .returned v ∧ R v w') := by
  refine (callsIn_wide (n := 0)).1 (callsIn_of_wp_marks hf hb trivial (wpIn_mono (h.out _ (init_rel _ _)) ?_) rfl)
  rintro e x w ⟨s', hr, hs, hq⟩
  have hd : x.defers = s'.d := hr.1.2
  cases e with
  | normal => show LeavesInM _ _ _ _ _ _ _ _ _; rw [hd]; exact leaves_rel hr _ _ hq.out
  | ret => show LeavesInM _ _ _ _ _ _ _ _ _; rw [hd]; exact leaves_rel hr _ _ hq.out
  | _ => exact hq.elim

end Go.Proofs.YthimamnblklkbaaDoor
