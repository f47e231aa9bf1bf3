/- Texts, one behind the other: Core, Sl, Sm, Sp, Sq, Sd, Kd, Eq, Sh, Vw, Sr, Ls, Rf, Rg. -/
import Derived.WalkKit
import Derived.KernelRfl
import Derived.RangeFuncIn
import Derived.RangeFuncLeaves
import Derived.RangeFuncRecord
import Derived.OrdersHeld
import Derived.Deep.RegionHeld
import Derived.Laws.StructEq
import Derived.Test.YtmmclabkkigiaaaGreatProg
set_option linter.unusedVariables false
set_option linter.unusedSimpArgs false
namespace Go.Proofs.YtmmclabkkigiaaaGreat
open Go Go.RowKit
structure Fs where
  n : Nat
  f : Nat → Value
  r : Option Nat
  d : List Deferred
def fen (r : Option Nat) : Fence := { Fence.wide with round := r }
def Rel (x : Act) (s : Fs) : Prop := (x.tmps.size = s.n ∧ x.defers = s.d) ∧ ∀ i, x.tmps.getD i undef = s.f i
def Fs.set (s : Fs) (d : Nat) (v : Value) : Fs := ⟨s.n, fun j => bif Nat.beq j d then v else s.f j, s.r, s.d⟩
def putS (s : Fs) (d : Option Tmp) (v : Value) : Fs :=
  match d with
  | some d => s.set d v
  | none => s
def evS (s : Fs) : Operand → Value
  | .tmp t => s.f t
  | .const v => v
  | .global g => .pointer (some ⟨g, 0, none⟩)
  | .func f => .func (.func f) #[] #[]
def yieldS (ops : Array Oper) (s : Fs) (j : Nat) : Option Bool :=
  match (ops[j]?).bind (·.dst) with
  | some d => match s.f d with
    | .bool b => some b
    | _ => none
  | none => none
def inB (d : Option Tmp) (n : Nat) : Bool :=
  match d with
  | some d => Nat.blt d n
  | none => true
theorem ev_rel {x : Act} {s : Fs} (h : Rel x s) : x.eval = evS s := by
  funext o
  cases o with
  | tmp t => exact h.2 t
  | const v => rfl
  | global g => rfl
  | func f => rfl
theorem yield_rel {x : Act} {s : Fs} (h : Rel x s) (ops : Array Oper) : yielded ops x.tmps = yieldS ops s := by
  funext j
  unfold yielded yieldS
  cases (ops[j]?).bind (·.dst) with
  | none => rfl
  | some d =>
    simp only [Option.bind_some]
    have h2 := h.2 d
    rw [← h2]
    by_cases hd : d < x.tmps.size
    · have e1 : x.tmps[d]? = some (x.tmps.getD d undef) := by simp [hd]
      rw [e1]
      generalize x.tmps.getD d undef = v
      cases v <;> rfl
    · simp [hd, undef]
theorem rel_set {a : Array Value} {n : Nat} {f : Nat → Value} (h1 : a.size = n) (h : ∀ i, a.getD i undef = f i) {d : Nat} (hd : d < n) (v : Value) :
    (a.setIfInBounds d v).size = n ∧ ∀ i, (a.setIfInBounds d v).getD i undef = bif Nat.beq i d then v else f i := by
  refine ⟨by simpa using h1, fun i => ?_⟩
  have h2 := h i
  by_cases e : i = d
  · subst e
    simp [h1, hd]
  · have hne : Nat.beq i d = false := by
      cases hb : Nat.beq i d with
      | false => rfl
      | true => exact (e (Nat.eq_of_beq_eq_true hb)).elim
    rw [hne]
    simp only [cond_false]
    rw [← h2]
    simp only [Array.getD_eq_getD_getElem?, Array.getElem?_setIfInBounds]
    rw [if_neg (fun e' => e e'.symm)]
theorem rel_put {x : Act} {s : Fs} (h : Rel x s) {d : Option Tmp} (hd : inB d s.n = true) (v : Value) : Rel (x.put d v) (putS s d v) := by
  cases d with
  | none => exact h
  | some d =>
    obtain ⟨⟨h1, h3⟩, h2⟩ := h
    have := rel_set h1 h2 (d := d) (by simpa [inB] using hd) v
    exact ⟨⟨this.1, h3⟩, this.2⟩
def runN (P : Program) (ops : Array Oper) : Nat → Nat → Fs → World → Option (Fs × World)
  | 0, _, s, w => some (s, w)
  | n + 1, i, s, w =>
    match ops[i]? with
    | none => none
    | some o =>
      match inB o.dst s.n with
      | false => none
      | true =>
        match Region.wanted o (yieldS ops s) with
        | true =>
          match (execOp (evS s) o).run P w with
          | .ok (.value v) w' => runN P ops n (i + 1) (putS s o.dst v) w'
          | _ => none
        | false => runN P ops n (i + 1) (putS s o.dst undef) w
def runS (P : Program) (ops : Array Oper) (n i : Nat) (s : Fs) (w : World) : Fs :=
  match runN P ops n i s w with
  | some (s', _) => s'
  | none => s
def wpM (M : Bool) (r : Option Nat) (P : Program) (ops : Array Oper) (T : Exit → Act → World → Prop) (l : List Nat) (x : Act) (w : World) : Prop :=
  match M with
  | false => wpOps P ops T l x w
  | true => wpOpsIn (fen r) 0 P ops T l x w
structure OpsAt (M : Bool) (P : Program) (ops : Array Oper) (i : Nat) (s : Fs) (w : World) (K : Fs → World → Prop) : Prop where
  out : ∀ x, Rel x s → ∀ T : Exit → Act → World → Prop, (∀ y w', (∃ s', Rel y s' ∧ s'.r = s.r ∧ K s' w') → T .normal y w') → wpM M s.r P ops T (List.range' i (ops.size - i)) x w
section
variable {M : Bool} {P : Program} {ops : Array Oper} {i : Nat} {s : Fs} {w : World} {K : Fs → World → Prop}
theorem put_r (s : Fs) (d : Option Tmp) (v : Value) : (putS s d v).r = s.r := by cases d <;> rfl
theorem ops_done (h : ops.size = i) (hk : K s w) : OpsAt M P ops i s w K := by
  refine ⟨fun x hx T hT => ?_⟩
  rw [h, Nat.sub_self]
  cases M <;> exact hT x w ⟨s, hx, rfl, hk⟩
theorem range_cons {o : Oper} (ho : ops[i]? = some o) : List.range' i (ops.size - i) = i :: List.range' (i + 1) (ops.size - (i + 1)) := by
  have hi : i < ops.size := (Array.getElem?_eq_some_iff.1 ho).1
  obtain ⟨k, hk⟩ : ∃ k, ops.size - i = k + 1 := ⟨ops.size - i - 1, by omega⟩
  have hk' : ops.size - (i + 1) = k := by omega
  rw [hk, hk', List.range'_succ]
theorem fen_depth {r : Option Nat} : (fen r).depth.isSome = true → 1 ≤ 0 := fun h => by cases h
theorem ops_unwanted {o : Oper} (ho : ops[i]? = some o) (hw : Region.wanted o (yieldS ops s) = false) (hd : inB o.dst s.n = true)
    (hk : OpsAt M P ops (i + 1) (putS s o.dst undef) w K) : OpsAt M P ops i s w K := by
  refine ⟨fun x hx T hT => ?_⟩
  rw [range_cons ho]
  have h := hk.out _ (rel_put hx hd undef) T (fun y w' ⟨s', h1, h2, h3⟩ => hT y w' ⟨s', h1, h2.trans (put_r _ _ _), h3⟩)
  rw [put_r] at h
  cases M with
  | false =>
    simp only [wpM, wpOps, ho, yield_rel hx, hw, Bool.false_eq_true, if_false] at h ⊢
    exact h
  | true =>
    simp only [wpM, wpOpsIn, ho, yield_rel hx, hw, Bool.false_eq_true, if_false] at h ⊢
    exact ⟨fun _ _ => trivial, h⟩
theorem not_defer {ρ : Operand → Value} {o : Oper} {n : Next} {w' : World} (hr : (execOp ρ o).run P w = .ok n w') (hn : ∀ d, n ≠ .defer d) (c : Call) : o.op ≠ .defer c := by
  intro hop
  simp only [execOp, hop, Sem.run_bind] at hr
  cases hq : (resolve ρ c o.type).run P w with
  | ok d w1 =>
    rw [hq] at hr
    simp only [Result.andThen_ok, Sem.run_pure, Result.ok.injEq] at hr
    exact hn d hr.1.symm
  | halt x w1 => rw [hq] at hr; cases hr
theorem ops_value {o : Oper} {v : Value} {w' : World} (ho : ops[i]? = some o) (hw : Region.wanted o (yieldS ops s) = true) (hd : inB o.dst s.n = true)
    (hr : (execOp (evS s) o).run P w = .ok (.value v) w') (hk : OpsAt M P ops (i + 1) (putS s o.dst v) w' K) : OpsAt M P ops i s w K := by
  refine ⟨fun x hx T hT => ?_⟩
  rw [range_cons ho]
  have h := hk.out _ (rel_put hx hd v) T (fun y w' ⟨s', h1, h2, h3⟩ => hT y w' ⟨s', h1, h2.trans (put_r _ _ _), h3⟩)
  rw [put_r] at h
  rw [← ev_rel hx] at hr
  cases M with
  | false =>
    simp only [wpM, wpOps, ho, yield_rel hx, hw, if_true] at h ⊢
    refine .inl ?_
    unfold Oper.wp
    rw [hr]
    exact h
  | true =>
    simp only [wpM, wpOpsIn, ho, yield_rel hx, hw, if_true] at h ⊢
    refine ⟨fun _ _ => trivial, ?_⟩
    rw [Oper.semAt_eq _ _ _ (not_defer hr (by simp)), hr]
    exact h
theorem ops_skipped {o : Oper} {w' : World} (ho : ops[i]? = some o) (hw : Region.wanted o (yieldS ops s) = true) (hd : inB o.dst s.n = true)
    (hr : (execOp (evS s) o).run P w = .ok .skip w') (hk : OpsAt M P ops (i + 1) (putS s o.dst undef) w' K) : OpsAt M P ops i s w K := by
  refine ⟨fun x hx T hT => ?_⟩
  rw [range_cons ho]
  have h := hk.out _ (rel_put hx hd undef) T (fun y w' ⟨s', h1, h2, h3⟩ => hT y w' ⟨s', h1, h2.trans (put_r _ _ _), h3⟩)
  rw [put_r] at h
  rw [← ev_rel hx] at hr
  cases M with
  | false =>
    simp only [wpM, wpOps, ho, yield_rel hx, hw, if_true] at h ⊢
    refine .inl ?_
    unfold Oper.wp
    rw [hr]
    exact h
  | true =>
    simp only [wpM, wpOpsIn, ho, yield_rel hx, hw, if_true] at h ⊢
    refine ⟨fun _ _ => trivial, ?_⟩
    rw [Oper.semAt_eq _ _ _ (not_defer hr (by simp)), hr]
    exact h
theorem calls_fen {r : Option Nat} {f : FuncId} {args : Array Value} {w : World} {R : Ending → World → Prop} (h : Calls P f args w R) : CallsIn (fen r) 0 P f args w R :=
  callsIn_wide (n := 0).2 h
theorem ops_enter {o : Oper} {f : FuncId} {args : Array Value} {w' : World} (ho : ops[i]? = some o) (hw : Region.wanted o (yieldS ops s) = true) (hd : inB o.dst s.n = true)
    (hr : (execOp (evS s) o).run P w = .ok (.enter f args) w')
    (hc : Calls P f args w' fun e w'' => ∃ v, e = .returned v ∧ OpsAt M P ops (i + 1) (putS s o.dst v) w'' K) : OpsAt M P ops i s w K := by
  refine ⟨fun x hx T hT => ?_⟩
  rw [range_cons ho]
  have next : ∀ v w'', OpsAt M P ops (i + 1) (putS s o.dst v) w'' K → wpM M s.r P ops T (List.range' (i + 1) (ops.size - (i + 1))) (x.put o.dst v) w'' := by
    intro v w'' hk
    have h := hk.out _ (rel_put hx hd v) T (fun y w' ⟨s', h1, h2, h3⟩ => hT y w' ⟨s', h1, h2.trans (put_r _ _ _), h3⟩)
    rwa [put_r] at h
  rw [← ev_rel hx] at hr
  cases M with
  | false =>
    simp only [wpM, wpOps, ho, yield_rel hx, hw, if_true]
    refine .inl ?_
    unfold Oper.wp
    rw [hr]
    refine Calls.mono hc ?_
    rintro e w'' ⟨v, rfl, h⟩
    exact next v w'' h
  | true =>
    simp only [wpM, wpOpsIn, ho, yield_rel hx, hw, if_true]
    refine ⟨fun _ _ => trivial, ?_⟩
    rw [Oper.semAt_eq _ _ _ (not_defer hr (by simp)), hr]
    refine ⟨fen_depth, calls_fen (Calls.mono hc ?_)⟩
    rintro e w'' ⟨v, rfl, h⟩
    exact next v w'' h
theorem runN_ops : ∀ (n i : Nat) (s : Fs) (w : World) (s' : Fs) (w' : World), runN P ops n i s w = some (s', w') →
    OpsAt M P ops (i + n) s' w' K → OpsAt M P ops i s w K := by
  intro n
  induction n with
  | zero =>
    intro i s w s' w' h hk
    simp only [runN, Option.some.injEq, Prod.mk.injEq] at h
    obtain ⟨rfl, rfl⟩ := h
    exact hk
  | succ n ih =>
    intro i s w s' w' h hk
    have e : i + (n + 1) = i + 1 + n := by omega
    rw [e] at hk
    simp only [runN] at h
    cases ho : ops[i]? with
    | none => simp [ho] at h
    | some o =>
      simp only [ho] at h
      cases hd : inB o.dst s.n with
      | false => simp [hd] at h
      | true =>
        simp only [hd] at h
        cases hw : Region.wanted o (yieldS ops s) with
        | false =>
          simp only [hw] at h
          exact ops_unwanted ho hw hd (ih _ _ _ _ _ h hk)
        | true =>
          simp only [hw] at h
          split at h
          · rename_i v w1 hr
            exact ops_value ho hw hd hr (ih _ _ _ _ _ h hk)
          · cases h
theorem ops_run (n : Nat) (h : (runN P ops n i s w).map (·.2) = some w) (hk : OpsAt M P ops (i + n) (runS P ops n i s w) w K) : OpsAt M P ops i s w K := by
  unfold runS at hk
  cases hr : runN P ops n i s w with
  | none => rw [hr] at h; cases h
  | some p =>
    obtain ⟨s', w'⟩ := p
    rw [hr] at h hk
    simp only [Option.map_some, Option.some.injEq] at h
    subst h
    exact runN_ops n i s _ s' _ hr hk
end
structure W (P : Program) (c : Code) (s : Fs) (w : World) (Q : Exit → Fs → World → Prop) : Prop where
  out : ∀ x, Rel x s → c.wpIn (fen s.r) 0 P (fun e x w => ∃ s', Rel x s' ∧ s'.r = s.r ∧ Q e s' w) x w
def seqQ (K : Fs → World → Prop) (Q : Exit → Fs → World → Prop) : Exit → Fs → World → Prop
  | .normal, s, w => K s w
  | e, s, w => Q e s w
def blockQ (id : Nat) (Q : Exit → Fs → World → Prop) : Exit → Fs → World → Prop
  | .exit id', s, w => if id' = id then Q .normal s w else Q (.exit id') s w
  | e, s, w => Q e s w
section
variable {P : Program} {s : Fs} {w : World} {Q : Exit → Fs → World → Prop}
theorem W.mono {c : Code} {Q' : Exit → Fs → World → Prop} (h : W P c s w Q) (hq : ∀ e s w, Q e s w → Q' e s w) : W P c s w Q' :=
  ⟨fun x hx => wpIn_mono (h.out x hx) fun _ _ _ ⟨s', h1, h2, h3⟩ => ⟨s', h1, h2, hq _ _ _ h3⟩⟩
theorem W.seq {x y : Code} (h : ∀ K : Fs → World → Prop, (∀ s w, W P y s w Q → K s w) → W P x s w (seqQ K Q)) : W P (.seq x y) s w Q := by
  refine ⟨fun a ha => wpIn_seq (wpIn_mono ((h (fun s w => W P y s w Q) fun _ _ h => h).out a ha) ?_)⟩
  rintro e x w ⟨s', hr, hs, hq⟩
  cases e with
  | normal =>
    have h := W.out (s := s') hq x hr
    rw [hs] at h
    exact h
  | _ => exact ⟨s', hr, hs, hq⟩
theorem W.skip (h : Q .normal s w) : W P .skip s w Q := ⟨fun _ hx => wpIn_skip ⟨s, hx, rfl, h⟩⟩
theorem W.ret (h : Q .ret s w) : W P .ret s w Q := ⟨fun _ hx => wpIn_ret ⟨s, hx, rfl, h⟩⟩
theorem W.exit {id : Nat} (h : Q (.exit id) s w) : W P (.exit id) s w Q := ⟨fun _ hx => wpIn_exit ⟨s, hx, rfl, h⟩⟩
theorem ret_seq {K : Fs → World → Prop} (h : Q .ret s w) : seqQ K Q .ret s w := h
theorem ret_block {id : Nat} (h : Q .ret s w) : blockQ id Q .ret s w := h
theorem exit_seq {K : Fs → World → Prop} {id : Nat} (h : Q (.exit id) s w) : seqQ K Q (.exit id) s w := h
theorem exit_here {id : Nat} (h : Q .normal s w) : blockQ id Q (.exit id) s w := by simp only [blockQ, if_true]; exact h
theorem exit_block {id id' : Nat} (hne : ¬ id' = id) (h : Q (.exit id') s w) : blockQ id Q (.exit id') s w := by simp only [blockQ, if_neg hne]; exact h
theorem normal_block {id : Nat} (h : Q .normal s w) : blockQ id Q .normal s w := h
theorem W.cond {c : Operand} {x y : Code} (b : Bool) (hc : evS s c = .bool b) (ht : b = true → W P x s w Q) (hf : b = false → W P y s w Q) : W P (.cond c x y) s w Q :=
  ⟨fun a ha => wpIn_cond_split (t := b) (by rw [ev_rel ha]; exact hc) (fun h => (ht h).out a ha) (fun h => (hf h).out a ha)⟩
theorem W.cond_true {c : Operand} {x y : Code} (b : Bool) (hc : evS s c = .bool b) (hb : b = true) (ht : W P x s w Q) : W P (.cond c x y) s w Q :=
  ⟨fun a ha => wpIn_cond_true (by subst hb; rw [ev_rel ha]; exact hc) (ht.out a ha)⟩
theorem W.cond_false {c : Operand} {x y : Code} (b : Bool) (hc : evS s c = .bool b) (hb : b = false) (hf : W P y s w Q) : W P (.cond c x y) s w Q :=
  ⟨fun a ha => wpIn_cond_false (by subst hb; rw [ev_rel ha]; exact hc) (hf.out a ha)⟩
theorem W.region {id : Nat} {ops : Array Oper} (h : OpsAt true P ops 0 s w (Q .normal)) : W P (.region id ops false) s w Q := by
  refine ⟨fun x hx => wpIn_region ?_⟩
  have h0 := h.out x hx (fun e x w => ∃ s', Rel x s' ∧ s'.r = s.r ∧ Q e s' w) (fun y w' h => h)
  rw [Nat.sub_zero, ← List.range_eq_range'] at h0
  exact h0
theorem W.block {id : Nat} {c : Code} (h : W P c s w (blockQ id Q)) : W P (.block id c) s w Q := by
  refine ⟨fun x hx => wpIn_block (wpIn_mono (h.out x hx) ?_)⟩
  rintro e a w ⟨s', hr, hs, hq⟩
  cases e with
  | exit id' =>
    simp only [Exit.inBlock, blockQ] at *
    split <;> rename_i hh
    · rw [if_pos hh] at hq; exact ⟨s', hr, hs, hq⟩
    · rw [if_neg hh] at hq; exact ⟨s', hr, hs, hq⟩
  | _ => exact ⟨s', hr, hs, hq⟩
structure LoopAt (P : Program) (c : Code) (Q : Exit → Fs → World → Prop) (s : Fs) (w : World) : Prop where
  out : ∀ x, Rel x s → ∀ (b : Frame) (k : List Item) (cs : List Frame), b.roundOf = s.r →
    ∃ e a' w', (∃ s', Rel a' s' ∧ s'.r = s.r ∧ Q e s' w') ∧ ArrivesIn (Machine.fenced P (fen s.r)) P (lone (b.atR x (.code c :: .inLoop c :: k)) cs w) b k cs e a' w'
theorem room_fen {r : Option Nat} (n : Nat) : (fen r).room n := fun _ h => by cases h
theorem W.loop_start {c : Code} (h : LoopAt P c Q s w) : W P (.loop c) s w Q := by
  refine ⟨fun x hx => ?_⟩
  intro b k cs hro hb hr
  obtain ⟨e, a', w', hq, harr⟩ := h.out x hx b k cs hro
  exact ⟨e, a', w', hq, .of_steps (.one (fenced_calm hb hr rfl) stepR_loop) harr⟩
theorem loopAt_round {c : Code} (h : W P c s w (seqQ (fun s' w' => LoopAt P c Q s' w') Q)) : LoopAt P c Q s w := by
  refine ⟨fun x hx b k cs hro => ?_⟩
  obtain ⟨e, t, w₁, ⟨s', hr, hs, hq⟩, harr⟩ := h.out x hx b (.inLoop c :: k) cs hro trivial (room_fen _)
  cases e with
  | normal =>
    have hq' : LoopAt P c Q s' w₁ := hq
    obtain ⟨e₂, a₂, w₂, ⟨s₂, h1, h2, h3⟩, harr₂⟩ := hq'.out t hr b k cs (hro.trans hs.symm)
    rw [hs] at harr₂ h2
    exact ⟨e₂, a₂, w₂, ⟨s₂, h1, h2, h3⟩, .of_steps (StepsIn.trans harr (.one (fenced_calm (F := fen s.r) (n := 0) trivial (room_fen _) rfl) stepR_inLoop)) harr₂⟩
  | exit id => exact ⟨_, t, w₁, ⟨s', hr, hs, hq⟩, .pass (x := .inLoop c) rfl (fun _ _ => .inl (by simp)) harr⟩
  | goto l => exact ⟨_, t, w₁, ⟨s', hr, hs, hq⟩, .pass (x := .inLoop c) rfl (fun _ _ => .inl (by simp)) harr⟩
  | ret => exact ⟨_, t, w₁, ⟨s', hr, hs, hq⟩, .pass (x := .inLoop c) rfl (fun _ _ => .inl (by simp)) harr⟩
  | panic ch => exact ⟨_, t, w₁, ⟨s', hr, hs, hq⟩, .pass (x := .inLoop c) rfl (fun _ _ => .inl (by simp)) harr⟩
  | outgrown => exact ⟨_, t, w₁, ⟨s', hr, hs, hq⟩, .pass (x := .inLoop c) rfl (fun _ _ => .inl (by simp)) harr⟩
theorem loopAt_next {c : Code} (h : LoopAt P c Q s w) : seqQ (fun s' w' => LoopAt P c Q s' w') Q .normal s w := h
theorem W.loop {c : Code} {G : Type} (I : G → Fs → World → Prop) (μ : G → Nat) (g : G) (h0 : I g s w)
    (round : ∀ g s w, I g s w → W P c s w (seqQ (fun s' w' => ∃ g', I g' s' w' ∧ μ g' < μ g) Q)) : W P (.loop c) s w Q := by
  refine W.loop_start ?_
  have key : ∀ n g s w, μ g = n → I g s w → LoopAt P c Q s w := by
    intro n
    induction n using Nat.strongRecOn with
    | _ n ih =>
      intro g s w hn hI
      refine loopAt_round ((round g s w hI).mono ?_)
      intro e s' w' h
      cases e with
      | normal =>
        obtain ⟨g', hg', hlt⟩ := h
        exact ih (μ g') (hn ▸ hlt) g' s' w' rfl hg'
      | _ => exact h
  exact key _ g s w rfl h0
theorem setS (i : Nat) {v : Value} (h : s.f i = v) : s.set i v = s := by
  subst h
  cases s with
  | mk n f r d =>
    simp only [Fs.set, Fs.mk.injEq, true_and, and_true]
    funext j
    cases hb : Nat.beq j i with
    | false => rfl
    | true => rw [Nat.eq_of_beq_eq_true hb]; rfl
theorem W.set {c : Code} (i : Nat) {v : Value} (h : s.f i = v) (hk : W P c (s.set i v) w Q) : W P c s w Q := by
  rwa [setS i h] at hk
theorem ops_set {M : Bool} {ops : Array Oper} {j : Nat} {K : Fs → World → Prop} (i : Nat) {v : Value} (h : s.f i = v) (hk : OpsAt M P ops j (s.set i v) w K) : OpsAt M P ops j s w K := by
  rwa [setS i h] at hk
end
def look : List (Nat × Value) → Nat → Value → Value
  | [], _, d => d
  | (j, v) :: r, i, d => bif Nat.beq i j then v else look r i d
def slotsD (n : Nat) (l : List (Nat × Value)) (us : Nat → Value) (r : Option Nat) (d : List Deferred) : Fs := ⟨n, fun i => look l i (us i), r, d⟩
def slots (n : Nat) (l : List (Nat × Value)) (us : Nat → Value) : Fs := slotsD n l us none []
theorem look_self : ∀ (l : List (Nat × Value)) (f : Nat → Value), (l.map fun p => f p.1) = l.map (·.2) → ∀ i, look l i (f i) = f i
  | [], _, _, _ => rfl
  | (j, v) :: r, f, h, i => by
    simp only [List.map_cons, List.cons.injEq] at h
    unfold look
    cases hb : Nat.beq i j with
    | false => exact look_self r f h.2 i
    | true =>
      have e := Nat.eq_of_beq_eq_true hb
      subst e
      exact h.1.symm
theorem slotsD_intro {n : Nat} {l : List (Nat × Value)} {r : Option Nat} {d : List Deferred} (s : Fs) (h : ((s.n, s.r, s.d), l.map fun p => s.f p.1) = ((n, r, d), l.map (·.2))) : ∃ us, s = slotsD n l us r d := by
  cases s with
  | mk m f r' d' =>
    simp only [Prod.mk.injEq] at h
    obtain ⟨⟨rfl, rfl, rfl⟩, h⟩ := h
    refine ⟨f, ?_⟩
    unfold slotsD
    congr 1
    funext i
    exact (look_self l f h i).symm
theorem slots_intro {n : Nat} {l : List (Nat × Value)} (s : Fs) (h : ((s.n, s.r, s.d), l.map fun p => s.f p.1) = ((n, none, []), l.map (·.2))) : ∃ us, s = slots n l us := slotsD_intro s h
def resF (s : Fs) : ResultVar → Sem Value
  | .tmp t => pure (s.f t)
  | .cell a t => do loadVar t (← asAddr (s.f a))
def resD (fn : Func) (s : Fs) : Sem Value := do
  let vs ← fn.results.mapM (resF s)
  pure (if h : vs.size = 1 then vs[0] else .tuple vs)
def resS (fn : Func) (s : Fs) : Sem Value :=
  match s.d with
  | [] => resD fn s
  | _ => stuck "deferred"
theorem res_rel {x : Act} {s : Fs} (h : Rel x s) (fn : Func) : results fn x.tmps = resD fn s := by
  unfold results resD
  congr 1
  congr 1
  funext y
  cases y with
  | tmp t => simp only [h.2, resF]
  | cell b t => simp only [h.2, resF]
def leaveQ (P : Program) (fn : Func) (R : Value → World → Prop) (s : Fs) : List Deferred → World → Prop
  | [], w => ∃ v, (resD fn s).run P w = .ok v w ∧ R v w
  | d :: ds, w => ∃ D w', d.target = .collected D ∧ (Instr.takeDeferred D).run P w = .ok [] w' ∧ leaveQ P fn R s ds w'
structure Leave (P : Program) (fn : Func) (R : Value → World → Prop) (s : Fs) (w : World) : Prop where
  out : leaveQ P fn R s s.d w
def retQ (P : Program) (fn : Func) (R : Value → World → Prop) : Exit → Fs → World → Prop
  | .normal, s, w | .ret, s, w => Leave P fn R s w
  | _, _, _ => False
theorem leave_of {P : Program} {fn : Func} {R : Value → World → Prop} {s : Fs} {w : World} {v : Value} (h : (resS fn s).run P w = .ok v w) (hR : R v w) : Leave P fn R s w := by
  unfold resS at h
  split at h
  · rename_i hd; refine ⟨?_⟩; rw [hd]; exact ⟨v, h, hR⟩
  · cases h
theorem leaves_rel {P : Program} {fn : Func} {R : Value → World → Prop} {s : Fs} {x : Act} (hx : Rel x s) : ∀ (ds : List Deferred) (w : World), leaveQ P fn R s ds w →
    LeavesInM Fence.wide 0 P fn x.tmps (fun e w' => ∃ v, e = .returned v ∧ R v w') ds .returning w
  | [], w, ⟨v, h, hR⟩ => ⟨v, by rw [res_rel hx]; exact h, v, rfl, hR⟩
  | d :: ds, w, ⟨D, w', h1, h2, h3⟩ => ⟨by simp, .inl ⟨D, w', h1, h2, leaves_rel hx ds w' h3⟩⟩
def initF (n : Nat) (args : Array Value) : Fs := ⟨args.size + (n - args.size), fun i => args.getD i undef, none, []⟩
theorem init_rel (n : Nat) (args : Array Value) : Rel ⟨args ++ Array.replicate (n - args.size) undef, []⟩ (initF n args) := by
  refine ⟨⟨by simp [initF], rfl⟩, fun i => ?_⟩
  simp only [initF, Array.getD_eq_getD_getElem?]
  by_cases h : i < args.size
  · simp [Array.getElem?_append_left h]
  · rw [Array.getElem?_append_right (by omega), Array.getElem?_replicate]
    split <;> simp [h]
theorem calls_W {P : Program} {f : FuncId} {fn : Func} {c : Code} {args : Array Value} {w : World} {R : Value → World → Prop}
    (hf : P.funcs[f]? = some fn) (hb : fn.body = some c) (h : W P c (initF fn.ntmps args) w (retQ P fn R)) :
    Calls P f args w (fun e w' => ∃ v, e = .returned v ∧ R v w') := by
  refine (callsIn_wide (n := 0)).1 (callsIn_of_wp_marks hf hb trivial (wpIn_mono (h.out _ (init_rel _ _)) ?_) rfl)
  rintro e x w ⟨s', hr, hs, hq⟩
  have hd : x.defers = s'.d := hr.1.2
  cases e with
  | normal => show LeavesInM _ _ _ _ _ _ _ _ _; rw [hd]; exact leaves_rel hr _ _ hq.out
  | ret => show LeavesInM _ _ _ _ _ _ _ _ _; rw [hd]; exact leaves_rel hr _ _ hq.out
  | _ => exact hq.elim
end Go.Proofs.YtmmclabkkigiaaaGreat

namespace Go.Proofs.YtmmclabkkigiaaaGreat
open Go Go.RowKit
structure Asn where
  P : Nat → World → List Nat → Prop
  stable : ∀ {B w w' l}, P B w l → w.heap.size ≤ w'.heap.size → (∀ b, b < w.heap.size → b < B ∨ b ∈ l → w'.heap[b]? = w.heap[b]?) → P B w' l
  low : ∀ {B w l}, P B w l → ∀ b, b ∈ l → B ≤ b ∧ b < w.heap.size
def Sep (B : Nat) (w : World) : List Asn → List Nat → Prop
  | [], l => ∀ b, b ∉ l
  | A :: H, l => ∃ l1 l2, A.P B w l1 ∧ Sep B w H l2 ∧ (∀ b, b ∈ l1 → b ∉ l2) ∧ (∀ b, b ∈ l ↔ b ∈ l1 ∨ b ∈ l2)
theorem Sep.low {B : Nat} {w : World} : ∀ {H : List Asn} {l : List Nat}, Sep B w H l → ∀ b, b ∈ l → B ≤ b ∧ b < w.heap.size
  | [], _, h, b, hb => (h b hb).elim
  | A :: _, _, ⟨_, _, h1, h2, _, hm⟩, b, hb => ((hm b).1 hb).elim (fun h => A.low h1 b h) (fun h => Sep.low h2 b h)
theorem Sep.stable {B : Nat} {w w' : World} (hz : w.heap.size ≤ w'.heap.size) : ∀ {H : List Asn} {l : List Nat}, Sep B w H l → (∀ b, b < w.heap.size → b < B ∨ b ∈ l → w'.heap[b]? = w.heap[b]?) → Sep B w' H l
  | [], _, h, _ => h
  | A :: _, _, ⟨l1, l2, h1, h2, hd, hm⟩, hb =>
    ⟨l1, l2, A.stable h1 hz fun b hs h => hb b hs (h.imp id fun h => (hm b).2 (.inl h)), Sep.stable hz h2 fun b hs h => hb b hs (h.imp id fun h => (hm b).2 (.inr h)), hd, hm⟩
theorem Sep.append {B : Nat} {w : World} : ∀ {H R : List Asn} {l : List Nat}, Sep B w (H ++ R) l ↔ ∃ l1 l2, Sep B w H l1 ∧ Sep B w R l2 ∧ (∀ b, b ∈ l1 → b ∉ l2) ∧ (∀ b, b ∈ l ↔ b ∈ l1 ∨ b ∈ l2)
  | [], R, l => by
    constructor
    · intro h
      exact ⟨[], l, fun b => by simp, h, by simp, by simp⟩
    · rintro ⟨l1, l2, h1, h2, _, hm⟩
      have : ∀ (R : List Asn) (l2 l : List Nat), Sep B w R l2 → (∀ b, b ∈ l ↔ b ∈ l2) → Sep B w R l := by
        intro R
        cases R with
        | nil => intro l2 l h e b hb; exact h b ((e b).1 hb)
        | cons A R => rintro l2 l ⟨a, c, x, y, z, t⟩ e; exact ⟨a, c, x, y, z, fun b => (e b).trans (t b)⟩
      refine this R l2 l h2 fun b => (hm b).trans ⟨?_, .inr⟩
      rintro (h | h)
      · exact (h1 b h).elim
      · exact h
  | A :: H, R, l => by
    constructor
    · rintro ⟨l1, l2, h1, h2, hd, hm⟩
      obtain ⟨m1, m2, g1, g2, gd, gm⟩ := Sep.append.1 h2
      refine ⟨l1 ++ m1, m2, ⟨l1, m1, h1, g1, fun b hb hb' => hd b hb ((gm b).2 (.inl hb')), by simp⟩, g2, ?_, ?_⟩
      · intro b hb hb'
        rcases List.mem_append.1 hb with h | h
        · exact hd b h ((gm b).2 (.inr hb'))
        · exact gd b h hb'
      · intro b
        rw [hm b, gm b, List.mem_append, or_assoc]
    · rintro ⟨l1, l2, ⟨m1, m2, g1, g2, gd, gm⟩, h2, hd, hm⟩
      refine ⟨m1, m2 ++ l2, g1, Sep.append.2 ⟨m2, l2, g2, h2, fun b hb => hd b ((gm b).2 (.inr hb)), by simp⟩, ?_, ?_⟩
      · intro b hb hb'
        rcases List.mem_append.1 hb' with h | h
        · exact gd b hb h
        · exact hd b ((gm b).2 (.inl hb)) h
      · intro b
        rw [hm b, gm b, List.mem_append, or_assoc]
theorem Sep.perm {B : Nat} {w : World} {H H' : List Asn} (hp : H.Perm H') : ∀ {l : List Nat}, Sep B w H l → Sep B w H' l := by
  induction hp with
  | nil => exact fun h => h
  | cons A _ ih => rintro l ⟨l1, l2, h1, h2, hd, hm⟩; exact ⟨l1, l2, h1, ih h2, hd, hm⟩
  | swap A A' H =>
    rintro l ⟨l1, l2, h1, ⟨m1, m2, g1, g2, gd, gm⟩, hd, hm⟩
    refine ⟨m1, l1 ++ m2, g1, ⟨l1, m2, h1, g2, fun b hb hb' => hd b hb ((gm b).2 (.inr hb')), by simp⟩, ?_, ?_⟩
    · intro b hb hb'
      rcases List.mem_append.1 hb' with h | h
      · exact hd b h ((gm b).2 (.inl hb))
      · exact gd b hb h
    · intro b
      rw [hm b, gm b, List.mem_append]
      constructor
      · rintro (h | h | h)
        · exact .inr (.inl h)
        · exact .inl h
        · exact .inr (.inr h)
      · rintro (h | h | h)
        · exact .inr (.inl h)
        · exact .inl h
        · exact .inr (.inr h)
  | trans _ _ ih1 ih2 => exact fun h => ih2 (ih1 h)
def exA {α : Type} (F : α → Prop) (Hs : α → List Asn) : Asn where
  P B w l := ∃ x, F x ∧ Sep B w (Hs x) l
  stable := by
    rintro B w w' l ⟨x, hF, hs⟩ hz hb
    exact ⟨x, hF, hs.stable hz hb⟩
  low := by
    rintro B w l ⟨x, _, hs⟩ c hc
    exact hs.low c hc
structure Upd (w w' : World) (l l' : List Nat) : Prop where
  os : w'.os = w.os
  tape : w'.tape = w.tape
  output : w'.output = w.output
  size : w.heap.size ≤ w'.heap.size
  block : ∀ b, b < w.heap.size → b ∉ l → w'.heap[b]? = w.heap[b]?
  foot : ∀ b, b ∈ l' → b ∈ l ∨ w.heap.size ≤ b
theorem Upd.refl (w : World) (l : List Nat) : Upd w w l l := ⟨rfl, rfl, rfl, Nat.le_refl _, fun _ _ _ => rfl, fun _ h => .inl h⟩
theorem Upd.sub {w w' : World} {l l' m : List Nat} (h : Upd w w' l l') (hm : ∀ b, b ∈ m → b ∈ l') : Upd w w' l m := ⟨h.os, h.tape, h.output, h.size, h.block, fun b hb => h.foot b (hm b hb)⟩
def St (B : Nat) (w0 : World) (l0 : List Nat) (w : World) (H : List Asn) : Prop :=
  B ≤ w0.heap.size ∧ (∀ b, b ∈ l0 → B ≤ b ∧ b < w0.heap.size) ∧ ∃ l, Sep B w H l ∧ Upd w0 w l0 l
def Spec (P : Program) (f : FuncId) (args : Array Value) (B : Nat) (w : World) (pre : List Asn) (post : Value → List Asn → Prop) : Prop :=
  ∀ l, B ≤ w.heap.size → Sep B w pre l → Calls P f args w (fun e w' => ∃ v, e = .returned v ∧ ∃ H' l', post v H' ∧ Sep B w' H' l' ∧ Upd w w' l l')
section
variable {B : Nat} {w0 w w' : World} {l0 : List Nat} {H R : List Asn}
theorem St.begin {l : List Nat} (hB : B ≤ w.heap.size) (h : Sep B w H l) : St B w l w H := ⟨hB, h.low, l, h, Upd.refl w l⟩
theorem St.perm (h : St B w0 l0 w H) {H' : List Asn} (hp : H.Perm H') : St B w0 l0 w H' :=
  let ⟨a, b, l, s, u⟩ := h; ⟨a, b, l, s.perm hp, u⟩
theorem front_perm : ∀ (H : List Asn) (j : Nat) (hj : j < H.length), H.Perm (H[j] :: H.eraseIdx j)
  | [], _, hj => absurd hj (by simp)
  | A :: H, 0, _ => .refl _
  | A :: H, j + 1, hj => ((front_perm H j (by simpa using hj)).cons A).trans (.swap _ _ _)
theorem St.front (h : St B w0 l0 w H) (j : Nat) (hj : j < H.length) : St B w0 l0 w (H[j] :: H.eraseIdx j) := h.perm (front_perm H j hj)
theorem St.drop {A : Asn} (h : St B w0 l0 w (A :: H)) : St B w0 l0 w H := by
  obtain ⟨a, b, l, ⟨l1, l2, h1, h2, hd, hm⟩, u⟩ := h
  exact ⟨a, b, l2, h2, u.sub fun b hb => (hm b).2 (.inr hb)⟩
theorem St.size (h : St B w0 l0 w H) : B ≤ w.heap.size := let ⟨a, _, _, _, u⟩ := h; Nat.le_trans a u.size
theorem St.sep (h : St B w0 l0 w H) : ∃ l, Sep B w H l := let ⟨_, _, l, s, _⟩ := h; ⟨l, s⟩
theorem St.part {pre : List Asn} (h : St B w0 l0 w (pre ++ R)) : ∃ l1, Sep B w pre l1 ∧ ∀ w' post l', Sep B w' post l' → Upd w w' l1 l' → St B w0 l0 w' (post ++ R) := by
  obtain ⟨a, b, l, s, u⟩ := h
  obtain ⟨l1, l2, s1, s2, hd, hm⟩ := Sep.append.1 s
  refine ⟨l1, s1, ?_⟩
  intro w' post l' s' u'
  refine ⟨a, b, l' ++ l2, Sep.append.2 ⟨l', l2, s', ?_, ?_, by simp⟩, ?_⟩
  · refine s2.stable u'.size fun b hs hb => u'.block b hs fun hb1 => ?_
    rcases hb with hb | hb
    · have := (s1.low b hb1).1; omega
    · exact hd b hb1 hb
  · intro b hb hb2
    rcases u'.foot b hb with h | h
    · exact hd b h hb2
    · have := (s2.low b hb2).2; omega
  · refine ⟨u'.os.trans u.os, u'.tape.trans u.tape, u'.output.trans u.output, Nat.le_trans u.size u'.size, ?_, ?_⟩
    · intro b hb hb0
      rw [u'.block b (Nat.lt_of_lt_of_le hb u.size) fun hb1 => ?_, u.block b hb hb0]
      rcases u.foot b ((hm b).2 (.inl hb1)) with h | h
      · exact hb0 h
      · omega
    · intro b hb
      rcases List.mem_append.1 hb with h | h
      · rcases u'.foot b h with h | h
        · exact u.foot b ((hm b).2 (.inl h))
        · exact .inr (Nat.le_trans u.size h)
      · exact u.foot b ((hm b).2 (.inr h))
theorem St.step {pre post : List Asn} (h : St B w0 l0 w (pre ++ R)) (hs : ∀ l, Sep B w pre l → ∃ l', Sep B w' post l' ∧ Upd w w' l l') : St B w0 l0 w' (post ++ R) := by
  obtain ⟨l1, s1, k⟩ := h.part
  obtain ⟨l', s', u'⟩ := hs l1 s1
  exact k w' post l' s' u'
theorem St.step1 {A : Asn} {post : List Asn} (h : St B w0 l0 w (A :: R)) (hs : ∀ l, A.P B w l → ∃ l', Sep B w' post l' ∧ Upd w w' l l') : St B w0 l0 w' (post ++ R) := by
  refine St.step (pre := [A]) h ?_
  rintro l ⟨l1, l2, h1, h2, hd, hm⟩
  obtain ⟨l', s', u'⟩ := hs l1 h1
  refine ⟨l', s', u'.os, u'.tape, u'.output, u'.size, ?_, ?_⟩
  · intro b hb hbl
    exact u'.block b hb fun h => hbl ((hm b).2 (.inl h))
  · intro b hb
    exact (u'.foot b hb).imp (fun h => (hm b).2 (.inl h)) id
theorem St.step0 {post : List Asn} (h : St B w0 l0 w R) (hs : ∃ l', Sep B w' post l' ∧ Upd w w' [] l') : St B w0 l0 w' (post ++ R) := by
  refine St.step (pre := []) h ?_
  intro l hl
  obtain ⟨l', s', u'⟩ := hs
  exact ⟨l', s', u'.os, u'.tape, u'.output, u'.size, fun b hb _ => u'.block b hb (by simp), fun b hb => .inr ((u'.foot b hb).resolve_left (by simp))⟩
theorem Upd.drew (w : World) : Upd w w.drew [] [] := ⟨rfl, rfl, rfl, Nat.le_refl _, fun _ _ _ => rfl, fun _ h => .inl h⟩
theorem St.drew (h : St B w0 l0 w H) : St B w0 l0 w.drew H := St.step0 (post := []) h ⟨[], fun b => by simp, Upd.drew w⟩
def Ent (H : List Asn) (F : World → Prop) : Prop := ∀ B w l, B ≤ w.heap.size → Sep B w H l → F w
theorem Ent.mono {F G : World → Prop} (h : Ent H F) (hf : ∀ w, F w → G w) : Ent H G := fun B w l hB hs => hf w (h B w l hB hs)
theorem St.conv {A A' : Asn} (h : St B w0 l0 w (A :: R)) (hs : ∀ l, B ≤ w.heap.size → A.P B w l → A'.P B w l) : St B w0 l0 w (A' :: R) := by
  have hB := h.size
  exact St.step1 (post := [A']) h fun l hl => ⟨l, ⟨l, [], hs l hB hl, fun b => by simp, fun b _ => by simp, by simp⟩, Upd.refl w l⟩
theorem St.of {pre : List Asn} {A : Asn} (h : St B w0 l0 w (pre ++ R)) (hs : ∀ l, Sep B w pre l → A.P B w l) : St B w0 l0 w (A :: R) :=
  St.step (pre := pre) (post := [A]) h fun l hl => ⟨l, ⟨l, [], hs l hl, fun b => by simp, fun b _ => by simp, by simp⟩, Upd.refl w l⟩
theorem St.open {α : Type} {F : α → Prop} {Hs : α → List Asn} (h : St B w0 l0 w (exA F Hs :: R)) : ∃ x, F x ∧ St B w0 l0 w (Hs x ++ R) := by
  have hw : Upd w w [] [] := Upd.refl w []
  obtain ⟨l1, ⟨m1, m2, ⟨x, hF, hx⟩, k1, _, k3⟩, key⟩ := St.part (pre := [exA F Hs]) h
  exact ⟨x, hF, key w (Hs x) m1 hx ((Upd.refl w l1).sub fun b hb => (k3 b).2 (.inl hb))⟩
theorem St.close {α : Type} {F : α → Prop} {Hs : α → List Asn} (x : α) (hF : F x) (h : St B w0 l0 w (Hs x ++ R)) : St B w0 l0 w (exA F Hs :: R) :=
  St.of h fun _ hl => ⟨x, hF, hl⟩
end
def blk (b : Nat) (o : Obj) : Asn where
  P B w l := B ≤ b ∧ w.heap[b]? = some o ∧ l = [b]
  stable := by
    rintro B w w' l ⟨h1, h2, rfl⟩ hz hb
    exact ⟨h1, (hb b (Array.getElem?_eq_some_iff.1 h2).1 (.inr (by simp))).trans h2, rfl⟩
  low := by
    rintro B w l ⟨h1, h2, rfl⟩ c hc
    simp only [List.mem_singleton] at hc
    subst hc
    exact ⟨h1, (Array.getElem?_eq_some_iff.1 h2).1⟩
def rowA (e : TypeId) (size : Nat) (v : Value) (n : Nat) (xs : List Value) : Asn where
  P B w l := w.ownsRow B e size v n xs ∧ l = v.ownBlock.toList
  stable := by
    rintro B w w' l ⟨h, rfl⟩ hz hb
    refine ⟨?_, rfl⟩
    have hlt := h.lt
    obtain ⟨h1, h2⟩ := h
    refine ⟨h1, h2.imp id ?_⟩
    rintro ⟨g, cap, cur, rfl, hg, hh, r⟩
    exact ⟨g, cap, cur, rfl, hg, (hb g (Array.getElem?_eq_some_iff.1 hh).1 (.inr (by simp [Value.ownBlock]))).trans hh, r⟩
  low := by
    rintro B w l ⟨h, rfl⟩ c hc
    exact h.lt c (by simpa using hc)
def lowA (a : Option Addr) (cs : List Value) : Asn where
  P B w l := l = [] ∧ (a = none → cs = []) ∧ ∀ ad, a = some ad → ∀ j v, cs[j]? = some v → ad.block < B ∧ w.cell? (ad.add j) = some v
  stable := by
    rintro B w w' l ⟨rfl, h0, h⟩ hz hb
    refine ⟨rfl, h0, fun ad ha j v hv => ?_⟩
    obtain ⟨h1, h3⟩ := h ad ha j v hv
    have e : (ad.add j).block = ad.block := by unfold Addr.add; split <;> rfl
    have h2 := World.block_lt_of_cell? w _ h3
    refine ⟨h1, ?_⟩
    rw [World.cell?_of_block (w := w) (by rw [e]; exact hb _ (by rw [e] at h2; exact h2) (.inl h1))]
    exact h3
  low := by
    rintro B w l ⟨rfl, _⟩ c hc
    simp at hc
def CellsAt (a : Option Addr) (cs : List Value) (w : World) : Prop :=
  match a with
  | none => cs = []
  | some ad => ∀ j v, cs[j]? = some v → w.cell? (ad.add j) = some v
theorem rowA_cells {e : TypeId} {size : Nat} {a : Option Addr} {k c : Nat} {n : Nat} {xs : List Value} {B : Nat} {w : World} {l : List Nat} (h : (rowA e size (.slice a k c) n xs).P B w l) :
    CellsAt a xs w := by
  obtain ⟨h, rfl⟩ := h
  have h1 := h.1
  rcases h.2 with ⟨hv, rfl⟩ | ⟨g, cap, cur, hv, _⟩
  · cases hv; exact List.eq_nil_of_length_eq_zero (by simpa using h1)
  · cases hv
    exact h.cells rfl
def dstOf (ops : Array Oper) (i : Nat) : Option Tmp := (ops[i]?).bind (·.dst)
def opQ (ops : Array Oper) (i : Nat) (s : Fs) : Option Oper :=
  match ops[i]? with
  | some o => match Region.wanted o (yieldS ops s) with
    | true => match inB o.dst s.n with
      | true => some o
      | false => none
    | false => none
  | none => none
theorem opQ_some' {ops : Array Oper} {i : Nat} {s : Fs} {o : Oper} (h : opQ ops i s = some o) : ops[i]? = some o ∧ Region.wanted o (yieldS ops s) = true ∧ dstOf ops i = o.dst ∧ inB o.dst s.n = true := by
  unfold opQ at h
  split at h
  · rename_i o' ho
    split at h
    · rename_i hw
      split at h
      · rename_i hd
        cases h
        exact ⟨ho, hw, by simp [dstOf, ho], hd⟩
      · cases h
    · cases h
  · cases h
section
variable {M : Bool} {P : Program} {ops : Array Oper} {i : Nat} {s : Fs} {w w' : World} {K : Fs → World → Prop}
def valQ (P : Program) (ops : Array Oper) (i : Nat) (s : Fs) (w : World) : Option (Value × World) :=
  match opQ ops i s with
  | some o => match (execOp (evS s) o).run P w with
    | .ok (.value v) w' => some (v, w')
    | .ok .skip w' => some (undef, w')
    | _ => none
  | none => none
theorem ops_valQ {v v' : Value} (hq : valQ P ops i s w = some (v, w')) (hv : v = v') (hk : OpsAt M P ops (i + 1) (putS s (dstOf ops i) v') w' K) : OpsAt M P ops i s w K := by
  subst hv
  unfold valQ at hq
  split at hq
  · rename_i o ho
    obtain ⟨h1, h2, h3, h4⟩ := opQ_some' ho
    rw [h3] at hk
    split at hq
    · rename_i v' w1 hr; cases hq; exact ops_value h1 h2 h4 hr hk
    · rename_i w1 hr; cases hq; exact ops_skipped h1 h2 h4 hr hk
    · cases hq
  · cases hq
theorem ops_val {v v' : Value} (hq : valQ P ops i s w = some (v, w)) (hv : v = v') (hk : OpsAt M P ops (i + 1) (putS s (dstOf ops i) v') w K) : OpsAt M P ops i s w K := ops_valQ hq hv hk
theorem ops_runs {o : Oper} {v : Value} (ho : opQ ops i s = some o) (hr : (execOp (evS s) o).run P w = .ok (.value v) w') (hk : OpsAt M P ops (i + 1) (putS s (dstOf ops i) v) w' K) : OpsAt M P ops i s w K := by
  obtain ⟨h1, h2, h3, h4⟩ := opQ_some' ho
  rw [h3] at hk
  exact ops_value h1 h2 h4 hr hk
theorem ops_runs0 {o : Oper} (ho : opQ ops i s = some o) (hr : (execOp (evS s) o).run P w = .ok .skip w') (hk : OpsAt M P ops (i + 1) (putS s (dstOf ops i) undef) w' K) : OpsAt M P ops i s w K := by
  obtain ⟨h1, h2, h3, h4⟩ := opQ_some' ho
  rw [h3] at hk
  exact ops_skipped h1 h2 h4 hr hk
def RunsTo (P : Program) (ops : Array Oper) (i : Nat) (s : Fs) (w : World) (v : Value) (w' : World) : Prop :=
  ∃ o, opQ ops i s = some o ∧ (execOp (evS s) o).run P w = .ok (.value v) w'
theorem ops_R {v : Value} (h : RunsTo P ops i s w v w') (hk : OpsAt M P ops (i + 1) (putS s (dstOf ops i) v) w' K) : OpsAt M P ops i s w K :=
  let ⟨_, ho, hr⟩ := h; ops_runs ho hr hk
def loadQ (P : Program) (ops : Array Oper) (i : Nat) (s : Fs) : Option Addr :=
  match opQ ops i s with
  | some o => match o.op with
    | .load t x => match P.underlying t with
      | some (.struct _) => none
      | some (.array _ _) => none
      | none => none
      | some _ => match evS s x with
        | .pointer (some a) => some a
        | _ => none
    | _ => none
  | none => none
theorem runs_load {ad : Addr} {v : Value} (hq : loadQ P ops i s = some ad) (hc : w.cell? ad = some v) : RunsTo P ops i s w v w := by
  unfold loadQ at hq
  split at hq
  · rename_i o ho
    split at hq
    · rename_i t x hop
      refine ⟨_, ho, ?_⟩
      split at hq
      · cases hq
      · cases hq
      · cases hq
      · rename_i d h1 h2 hu
        split at hq
        · rename_i a hx
          cases hq
          have hag : (isAgg t).run P w = .ok false w := by
            unfold isAgg
            rw [Sem.run_bind, run_underlying hu]
            simp only [Result.andThen_ok]
            cases d <;> first | rfl | exact (h1 _ rfl).elim | exact (h2 _ _ rfl).elim
          simp only [execOp, hop, hx, Instr.loadAt, Instr.sureAddr, loadVar, Sem.run_bind, Sem.run_pure, Result.andThen_ok, hag, load]
          simp [Sem.run, hc]
        · cases hq
    · cases hq
  · cases hq
def loadAggQ (P : Program) (ops : Array Oper) (i : Nat) (s : Fs) : Option (Addr × Nat) :=
  match opQ ops i s with
  | some o => match o.op with
    | .load t x => match P.underlying t, P.info? t, evS s x with
      | some (.struct _), some f, .pointer (some a) => some (a, f.size)
      | some (.array _ _), some f, .pointer (some a) => some (a, f.size)
      | _, _, _ => none
    | _ => none
  | none => none
theorem runs_loadAgg {ad : Addr} {cs : List Value} (hq : loadAggQ P ops i s = some (ad, cs.length)) (hc : ∀ j v, cs[j]? = some v → w.cell? (ad.add j) = some v) : RunsTo P ops i s w (.agg cs.toArray) w := by
  unfold loadAggQ at hq
  split at hq
  · rename_i o ho
    split at hq
    · rename_i t x hop
      refine ⟨_, ho, ?_⟩
      have key : ∀ (d : TypeDesc) (f : TypeInfo) (a : Addr), P.underlying t = some d → P.info? t = some f → evS s x = .pointer (some a) → (match d with | .struct _ | .array _ _ => true | _ => false) = true → some (a, f.size) = some (ad, cs.length) →
          (execOp (evS s) o).run P w = .ok (.value (.agg cs.toArray)) w := by
        intro d f a hu hi hx hd he
        simp only [Option.some.injEq, Prod.mk.injEq] at he
        obtain ⟨rfl, hn⟩ := he
        have hag : (isAgg t).run P w = .ok true w := by
          unfold isAgg
          rw [Sem.run_bind, run_underlying hu]
          simp only [Result.andThen_ok]
          cases d <;> first | rfl | simp at hd
        have hsz : (sizeOf t).run P w = .ok f.size w := by
          simp [sizeOf, typeInfo, hi]
        have hl := run_loadCells_list (P := P) w a cs hc
        rw [← hn] at hl
        simp only [execOp, hop, hx, Instr.loadAt, Instr.sureAddr, loadVar, Sem.run_bind, Sem.run_pure, Result.andThen_ok, hag, hsz, if_true, hl]
      split at hq
      · rename_i hu hi hx; exact key _ _ _ hu hi hx rfl hq
      · rename_i hu hi hx; exact key _ _ _ hu hi hx rfl hq
      · cases hq
    · cases hq
  · cases hq
def storeQ (P : Program) (ops : Array Oper) (i : Nat) (s : Fs) : Option (Addr × List Value) :=
  match opQ ops i s with
  | some o => match o.op with
    | .store t x y => match P.info? t, evS s x with
      | some f, .pointer (some a) => match decide ((evS s y).cells.size = f.size) with
        | true => some (a, (evS s y).cells.toList)
        | false => none
      | _, _ => none
    | _ => none
  | none => none
def writeAt (cs : List Value) (off : Nat) : List Value → List Value
  | [] => cs
  | v :: r => writeAt (cs.set off v) (off + 1) r
theorem writeAt_length : ∀ (vs cs : List Value) (off : Nat), (writeAt cs off vs).length = cs.length
  | [], _, _ => rfl
  | v :: r, cs, off => by rw [writeAt, writeAt_length r]; simp
theorem run_storeCells_blk (b : Nat) (t : TypeId) (off : Nat) : ∀ (vs : List Value) (k : Nat) (cs : List Value) (w : World), w.heap[b]? = some (.cells cs.toArray t (0, 0)) →
    off + k + vs.length ≤ cs.length → vs.all Value.oneCell' = true →
    ∃ w', (storeCells ⟨b, off, none⟩ vs k).run P w = .ok () w' ∧ w'.heap[b]? = some (.cells (writeAt cs (off + k) vs).toArray t (0, 0)) ∧ Upd w w' [b] [b]
  | [], k, cs, w, hb, _, _ => ⟨w, rfl, hb, Upd.refl w [b]⟩
  | v :: r, k, cs, w, hb, hl, hv => by
    simp only [List.all_cons, Bool.and_eq_true, List.length_cons] at hv hl
    have hadd : (⟨b, off, none⟩ : Addr).add k = ⟨b, off + k, none⟩ := by unfold Addr.add; split <;> simp_all
    have hcell : w.cell? ⟨b, off + k, none⟩ = some (cs[off + k]'(by omega)) := by
      simp only [World.cell?, hb]
      simp
    have hfr : w.frozen? ⟨b, off + k, none⟩ = false := by
      simp only [World.frozen?, hb]
      simp
    have hblock : b < w.heap.size := (Array.getElem?_eq_some_iff.1 hb).1
    have hset : (w.setCell ⟨b, off + k, none⟩ v).heap[b]? = some (.cells ((cs.set (off + k) v).toArray) t (0, 0)) := by
      simp [World.setCell, Array.getElem?_modify, hb]
    obtain ⟨w', h1, h2, h3⟩ := run_storeCells_blk b t off r (k + 1) (cs.set (off + k) v) (w.setCell ⟨b, off + k, none⟩ v) hset (by simp; omega) hv.2
    refine ⟨w', ?_, ?_, ?_⟩
    · rw [storeCells, Sem.run_bind, hadd]
      have hst : (store ⟨b, off + k, none⟩ v).run P w = .ok () (w.setCell ⟨b, off + k, none⟩ v) := by
        rw [run_store P w _ v _ hv.1]
        simp [hcell, hfr]
      rw [hst]
      simp only [Result.andThen_ok]
      exact h1
    · rw [writeAt]
      exact h2
    · refine ⟨h3.os, h3.tape, h3.output, ?_, ?_, fun c hc => .inl hc⟩
      · have := h3.size; simpa using this
      · intro c hc hn
        rw [h3.block c (by simpa using hc) hn]
        simp only [List.mem_singleton] at hn
        exact Below.heap_setCell _ _ _ _ hn
theorem ops_store {B : Nat} {w0 : World} {l0 : List Nat} {R : List Asn} {b off : Nat} {vs cs : List Value} {t : TypeId} (hs : St B w0 l0 w (blk b (.cells cs.toArray t (0, 0)) :: R))
    (hq : storeQ P ops i s = some (⟨b, off, none⟩, vs)) (hl : off + vs.length ≤ cs.length) (hv : vs.all Value.oneCell' = true)
    (hk : ∀ w', St B w0 l0 w' (blk b (.cells (writeAt cs off vs).toArray t (0, 0)) :: R) → OpsAt M P ops (i + 1) (putS s (dstOf ops i) undef) w' K) : OpsAt M P ops i s w K := by
  have hb : w.heap[b]? = some (.cells cs.toArray t (0, 0)) := by
    obtain ⟨l, hsep⟩ := hs.sep
    obtain ⟨_, _, h1, _⟩ := hsep
    exact h1.2.1
  obtain ⟨w', h1, h2, h3⟩ := run_storeCells_blk (P := P) b t off vs 0 cs w hb (by simpa using hl) hv
  have hst : St B w0 l0 w' (blk b (.cells (writeAt cs off vs).toArray t (0, 0)) :: R) := by
    refine St.step1 (post := [blk b (.cells (writeAt cs off vs).toArray t (0, 0))]) hs ?_
    rintro l ⟨g1, g2, rfl⟩
    exact ⟨[b], ⟨[b], [], ⟨g1, h2, rfl⟩, fun c => by simp, fun c _ => by simp, by simp⟩, h3⟩
  have hk' := hk w' hst
  unfold storeQ at hq
  split at hq
  · rename_i o ho
    split at hq
    · rename_i ty x y hop
      refine ops_runs0 ho ?_ hk'
      split at hq
      · rename_i f a hi hx
        split at hq
        · rename_i hsz
          simp only [Option.some.injEq, Prod.mk.injEq] at hq
          obtain ⟨rfl, rfl⟩ := hq
          have hz := of_decide_eq_true hsz
          have hso : (sizeOf ty).run P w = .ok f.size w := by simp [sizeOf, typeInfo, hi]
          simp only [execOp, hop, hx, Instr.storeAt, Instr.sureAddr, storeVar, Sem.run_bind, Sem.run_pure, Result.andThen_ok, hso, hz, ne_eq, not_true_eq_false, if_false, h1]
        · cases hq
      · cases hq
    · cases hq
  · cases hq
theorem ops_new {B : Nat} {w0 : World} {l0 : List Nat} {R : List Asn} (f : Nat → Value) (ob : Obj) (hs : St B w0 l0 w R)
    (hq : valQ P ops i s w = some (f w.heap.size, w.alloc ob)) (hk : ∀ b w', St B w0 l0 w' (blk b ob :: R) → OpsAt M P ops (i + 1) (putS s (dstOf ops i) (f b)) w' K) : OpsAt M P ops i s w K := by
  refine ops_valQ hq rfl (hk _ _ ?_)
  have hB := hs.size
  refine St.step0 (post := [blk w.heap.size ob]) hs ⟨[w.heap.size], ⟨[w.heap.size], [], ⟨hB, ?_, rfl⟩, fun c => by simp, fun c _ => by simp, by simp⟩, ?_⟩
  · exact heap_alloc_new w ob
  · refine ⟨rfl, rfl, rfl, by simp, fun c hc _ => Below.heap_alloc _ _ _ hc, fun c hc => .inr ?_⟩
    simp only [List.mem_singleton] at hc
    omega
def callQ (P : Program) (ops : Array Oper) (i : Nat) (s : Fs) (w : World) : Option (FuncId × Array Value × World) :=
  match opQ ops i s with
  | some o => match (execOp (evS s) o).run P w with
    | .ok (.enter f args) w' => some (f, args, w')
    | _ => none
  | none => none
theorem ops_call {B : Nat} {w0 : World} {l0 : List Nat} {pre R : List Asn} {f : FuncId} {args : Array Value} {post : Value → List Asn → Prop} (hs : St B w0 l0 w (pre ++ R))
    (hq : callQ P ops i s w = some (f, args, w)) (hc : Spec P f args B w pre post)
    (hk : ∀ v H' w', post v H' → St B w0 l0 w' (H' ++ R) → OpsAt M P ops (i + 1) (putS s (dstOf ops i) v) w' K) : OpsAt M P ops i s w K := by
  unfold callQ at hq
  split at hq
  · rename_i o ho
    obtain ⟨h1, h2, h3, h4⟩ := opQ_some' ho
    rw [h3] at hk
    split at hq
    · rename_i f' args' w1 hr
      simp only [Option.some.injEq, Prod.mk.injEq] at hq
      obtain ⟨rfl, rfl, rfl⟩ := hq
      refine ops_enter h1 h2 h4 hr ?_
      have hB := hs.size
      obtain ⟨l1, s1, key⟩ := hs.part
      refine Calls.mono (hc l1 hB s1) ?_
      rintro e w'' ⟨v, rfl, H', l', hp, hsep', hu⟩
      exact ⟨v, rfl, hk v H' w'' hp (key w'' H' l' hsep' hu)⟩
    · cases hq
  · cases hq
end
theorem spec_W {P : Program} {f : FuncId} {fn : Func} {c : Code} {args : Array Value} {B : Nat} {w : World} {pre : List Asn} {post : Value → List Asn → Prop}
    (hf : P.funcs[f]? = some fn) (hb : fn.body = some c)
    (h : ∀ l0, St B w l0 w pre → W P c (initF fn.ntmps args) w (retQ P fn fun v w' => ∃ H', post v H' ∧ St B w l0 w' H')) : Spec P f args B w pre post := by
  intro l hB hs
  refine (calls_W hf hb (h l (St.begin hB hs))).mono ?_
  rintro e w' ⟨v, rfl, H', hp, _, _, l', hs', hu⟩
  exact ⟨v, rfl, H', l', hp, hs', hu⟩
theorem ret_of {P : Program} {fn : Func} {R : Value → World → Prop} {s : Fs} {w : World} (v : Value) (h : (resS fn s).run P w = .ok v w) (hR : R v w) : retQ P fn R .ret s w := leave_of h hR
end Go.Proofs.YtmmclabkkigiaaaGreat

namespace Go.Proofs.YtmmclabkkigiaaaGreat
open Go Go.RowKit
theorem wrap_i64 {z : Int} (h1 : -9223372036854775808 ≤ z) (h2 : z ≤ 9223372036854775807) : IntKind.i64.wrap z = z := by
  have e : (2 : Int) ^ IntKind.i64.bits = 18446744073709551616 := by decide
  have e' : (2 : Int) ^ (IntKind.i64.bits - 1) = 9223372036854775808 := by decide
  unfold IntKind.wrap
  simp only [e, e', IntKind.signed, Bool.true_and, decide_eq_true_eq]
  split <;> omega
theorem wrap_u64 {z : Int} (h1 : 0 ≤ z) (h2 : z < 18446744073709551616) : IntKind.u64.wrap z = z := by
  have e : (2 : Int) ^ IntKind.u64.bits = 18446744073709551616 := by decide
  unfold IntKind.wrap
  simp only [e, IntKind.signed, Bool.false_and, Bool.false_eq_true, if_false]
  omega
theorem wrap_u64_mod (z : Int) : IntKind.u64.wrap z = z % 18446744073709551616 := by
  have e : (2 : Int) ^ IntKind.u64.bits = 18446744073709551616 := by decide
  unfold IntKind.wrap
  simp only [e, IntKind.signed, Bool.false_and, Bool.false_eq_true, if_false]
def adr (a : Option Addr) (k : Nat) : Addr := (a.getD ⟨0, 0, none⟩).add k
theorem add_add (ad : Addr) (j k : Nat) : (ad.add j).add k = ad.add (j + k) := by
  unfold Addr.add
  by_cases hj : j = 0
  · subst hj; simp
  · by_cases hk : k = 0
    · subst hk; simp
    · rw [if_neg hj, if_neg hk, if_neg (by omega)]
      simp [Nat.add_assoc]
theorem adr_add (a : Option Addr) (j k : Nat) : (adr a j).add k = adr a (j + k) := add_add _ _ _
theorem cells_get {a : Option Addr} {cs : List Value} {w : World} (h : CellsAt a cs w) {k : Nat} {v : Value} (hv : cs[k]? = some v) : w.cell? (adr a k) = some v := by
  cases a with
  | none => simp only [CellsAt] at h; subst h; simp at hv
  | some ad => exact h k v hv
theorem cells_some {a : Option Addr} {cs : List Value} {w : World} (h : CellsAt a cs w) (hn : cs ≠ []) : ∃ ad, a = some ad := by
  cases a with
  | none => exact (hn h).elim
  | some ad => exact ⟨ad, rfl⟩
theorem cell_of_blk {w : World} {b off : Nat} {cs : List Value} {t : TypeId} {fr : Nat × Nat} {v : Value} (h : w.heap[b]? = some (.cells cs.toArray t fr)) (hv : cs[off]? = some v) : w.cell? ⟨b, off, none⟩ = some v := by
  rw [cell_of_row w b off _ t fr h]
  simpa using hv
section
variable {B : Nat} {w0 w w' : World} {l0 : List Nat} {H R : List Asn}
theorem St.heapAt (hs : St B w0 l0 w H) (j : Nat) {b : Nat} {o : Obj} (hj : H[j]? = some (blk b o)) : w.heap[b]? = some o := by
  obtain ⟨l, sep⟩ := hs.sep
  clear hs
  induction H generalizing j l with
  | nil => simp at hj
  | cons A H ih =>
    obtain ⟨l1, l2, h1, h2, _, _⟩ := sep
    cases j with
    | zero =>
      simp only [List.getElem?_cons_zero, Option.some.injEq] at hj
      subst hj
      exact h1.2.1
    | succ j => exact ih j (by simpa using hj) l2 h2
theorem St.cellAt (hs : St B w0 l0 w H) (j : Nat) {b off : Nat} {cs : List Value} {t : TypeId} {fr : Nat × Nat} {v : Value} (hj : H[j]? = some (blk b (.cells cs.toArray t fr))) (hv : cs[off]? = some v) : w.cell? ⟨b, off, none⟩ = some v :=
  cell_of_blk (hs.heapAt j hj) hv
theorem St.old (hs : St B w0 [] w H) {b : Nat} {o : Obj} (h : w0.heap[b]? = some o) : w.heap[b]? = some o := by
  obtain ⟨_, _, l, _, u⟩ := hs
  rw [u.block b (Array.getElem?_eq_some_iff.1 h).1 (by simp)]
  exact h
theorem St.oldCell (hs : St B w0 [] w H) {ad : Addr} {v : Value} (h : w0.cell? ad = some v) : w.cell? ad = some v := by
  have hb := World.block_lt_of_cell? w0 ad h
  obtain ⟨_, _, l, _, u⟩ := hs
  rw [World.cell?_of_block (w := w0) (u.block ad.block hb (by simp))]
  exact h
theorem St.oldCells (hs : St B w0 [] w H) {a : Option Addr} {cs : List Value} (h : CellsAt a cs w0) : CellsAt a cs w := by
  cases a with
  | none => exact h
  | some ad => exact fun j v hv => hs.oldCell (h j v hv)
end
section
variable {M : Bool} {P : Program} {ops : Array Oper} {i : Nat} {s : Fs} {w w' : World} {K : Fs → World → Prop}
def idxQ (P : Program) (ops : Array Oper) (i : Nat) (s : Fs) : Option (Option Addr × Nat × Int × Nat) :=
  match opQ ops i s with
  | some o => match o.op with
    | .indexAddr t x y => match P.underlying t, evS s x, evS s y with
      | some (.slice e), .slice a n _, .int _ k => match P.info? e with
        | some f => some (a, n, k, f.size)
        | none => none
      | _, _, _ => none
    | _ => none
  | none => none
theorem runs_index {a : Option Addr} {n size : Nat} {z : Int} (k : Nat) (hz : z = (k : Int)) (hk : k < n) (ha : ∃ ad, a = some ad) (hq : idxQ P ops i s = some (a, n, z, size)) :
    RunsTo P ops i s w (.pointer (some (adr a (k * size)))) w := by
  subst hz
  obtain ⟨ad, rfl⟩ := ha
  unfold idxQ at hq
  split at hq
  · rename_i o ho
    split at hq
    · rename_i t x y hop
      refine ⟨_, ho, ?_⟩
      split at hq
      · rename_i e a' n' c' k' z' hu hx hy
        split at hq
        · rename_i f hf
          simp only [Option.some.injEq, Prod.mk.injEq] at hq
          obtain ⟨rfl, rfl, rfl, rfl⟩ := hq
          have hso : (sizeOf e).run P w = .ok f.size w := by simp [sizeOf, typeInfo, hf]
          have hun := run_underlying (P := P) hu w
          have hlt : (0 : Int) ≤ (k : Int) ∧ (k : Int) < (n' : Int) := ⟨by omega, by omega⟩
          simp only [execOp, hop, hx, hy, Instr.indexAt, asIntOf, Sem.run_bind, Sem.run_pure, Result.andThen_ok, hun, hso, if_pos hlt, Int.toNat_natCast, adr, Option.getD_some]
        · cases hq
      · cases hq
    · cases hq
  · cases hq
def appQ (P : Program) (ops : Array Oper) (i : Nat) (s : Fs) (e : TypeId) : Option ((Option Addr × Nat × Nat) × (Option Addr × Nat × Nat) × Nat × Nat) :=
  match opQ ops i s with
  | some o => match o.op with
    | .call { callee := .builtin .append, args := ⟨[x, y]⟩, argTypes := ⟨[t, t']⟩ } => match P.underlying t, P.info? e, evS s x, evS s y with
      | some (.slice e'), some f, .slice a n c, .slice a' n' c' => match decide (e' = e), decide (t = t'), f.zero with
        | true, true, some z => match decide (z.cells.size = f.size), decide (0 < f.size) with
          | true, true => some ((a, n, c), (a', n', c'), f.size, f.bytes)
          | _, _ => none
        | _, _, _ => none
      | _, _, _, _ => none
    | _ => none
  | none => none
theorem run_append_row {P : Program} (w : World) (base : Nat) (t ty e : TypeId) (f : TypeInfo) (z : Value) (ht : P.underlying t = some (.slice e)) (hi : P.info? e = some f) (hz : f.zero = some z)
    (hzs : z.cells.size = f.size) (hsz : 0 < f.size) (v : Value) (n : Nat) (xs : List Value) (hown : w.ownsRow base e f.size v n xs)
    (a : Option Addr) (m c : Nat) (hc : a = none → c = 0) (news : List Value) (hl : news.length = m * f.size) (hnews : CellsAt a news w) (h1 : ∀ u ∈ news, u.oneCell' = true)
    (h63 : n + m ≤ maxLen) (hbytes : (n + m) * f.bytes ≤ 140737488355328) (hbase : base ≤ w.heap.size) :
    ∃ v' w', (Builtin.append_ #[t, t] ty #[v, .slice a m c]).run P w = .ok v' w' ∧ w'.ownsRow base e f.size v' (n + m) (xs ++ news) ∧ w.grownBy w' v.ownBlock ∧ (∀ b, v'.ownBlock = some b → v.ownBlock = some b ∨ w.heap.size ≤ b) := by
  cases a with
  | some ad =>
    obtain ⟨v', w', h, h', h'', _⟩ := run_append_own (P := P) w base t ty e f z f.size f.bytes ht hi hz rfl rfl hzs hsz v n xs hown ad m c news hl hnews h1 h63 hbytes hbase
    refine ⟨v', w', h, h', h'', ?_⟩
    have h64 : n + m ≤ 9223372036854775807 := by simp only [maxLen] at h63; omega
    rcases hown.2 with ⟨rfl, rfl⟩ | ⟨g, cap, cur, rfl, hbg, hg, hnc, hcm, hcs, htake⟩
    · by_cases hm : m = 0
      · subst hm
        have hn : news = [] := List.eq_nil_of_length_eq_zero (by simpa using hl)
        subst hn
        have hr : (Builtin.append_ #[t, t] ty #[.slice none 0 0, .slice (some ad) 0 c]).run P w = .ok (.slice none 0 0) w := by
          simp [Builtin.append_, run_underlying ht, sizeOf, typeInfo, hi, Builtin.lenOf, Builtin.firstCells, loadCells, loadCellsFrom]
        rw [hr] at h
        cases h
        intro b hb
        simp [Value.ownBlock] at hb
      · have hr := run_append_nil (P := P) w t ty e f z ht hi hz ad m c news hl hnews (by omega) (by omega) (by simp only [Nat.zero_add] at hbytes; omega)
        rw [hr] at h
        cases h
        intro b hb
        simp only [Value.ownBlock, Option.some.injEq] at hb
        exact .inr (by omega)
    · by_cases hroom : n + m ≤ cap
      · have hfit : n * f.size + news.length ≤ cur.size := by rw [hl, hcs, ← Nat.add_mul]; exact Nat.mul_le_mul_right _ hroom
        have hr := run_append_room (P := P) w t ty e f ht hi g n cap cur hg ad m c news hl hnews h1 hroom hfit
        rw [hr] at h
        cases h
        intro b hb
        exact .inl hb
      · have holds : ∀ j u, xs[j]? = some u → w.cell? ((⟨g, 0, none⟩ : Addr).add j) = some u := hown.cells (g := g) rfl
        have hr := run_append_grow (P := P) w t ty e f z ht hi hz ⟨g, 0, none⟩ n cap xs hown.1 holds ad m c news hl hnews (by omega) (by omega) (growslice_fits (by omega) hbytes)
        rw [hr] at h
        cases h
        intro b hb
        simp only [Value.ownBlock, Option.some.injEq] at hb
        exact .inr (by omega)
  | none =>
    have hn : news = [] := hnews
    subst hn
    have hm : m = 0 := by
      rcases Nat.eq_zero_or_pos m with h | h
      · exact h
      · have := Nat.mul_pos h hsz; simp at hl; omega
    subst hm
    have hcc := hc rfl
    subst hcc
    rcases hown.2 with ⟨rfl, rfl⟩ | ⟨g, cap, cur, rfl, hbg, hg, hnc, hcm, hcs, htake⟩
    · refine ⟨.slice none 0 0, w, ?_, by simpa using hown, ⟨rfl, rfl, rfl, Nat.le_refl _, fun _ _ _ => rfl⟩, fun b hb => .inl hb⟩
      simp [Builtin.append_, run_underlying ht, sizeOf, typeInfo, hi, Builtin.lenOf, Builtin.firstCells]
    · refine ⟨.slice (some ⟨g, 0, none⟩) n cap, w, ?_, by simpa using hown, ⟨rfl, rfl, rfl, Nat.le_refl _, fun _ _ _ => rfl⟩, fun b hb => .inl hb⟩
      simp [Builtin.append_, run_underlying ht, sizeOf, typeInfo, hi, Builtin.lenOf, Builtin.firstCells, hnc, storeCells]
theorem ops_append {B : Nat} {w0 : World} {l0 : List Nat} {R : List Asn} {e : TypeId} {a a' : Option Addr} {n c m c' size bytes : Nat} {xs news : List Value}
    (hs : St B w0 l0 w (rowA e size (.slice a n c) n xs :: R)) (hq : appQ P ops i s e = some ((a, n, c), (a', m, c'), size, bytes))
    (hc : a' = none → c' = 0) (hl : news.length = m * size) (hnews : CellsAt a' news w) (h1 : ∀ u ∈ news, u.oneCell' = true) (h63 : n + m ≤ maxLen) (hbytes : (n + m) * bytes ≤ 140737488355328)
    (hk : ∀ a'' c'' w', St B w0 l0 w' (rowA e size (.slice a'' (n + m) c'') (n + m) (xs ++ news) :: R) → OpsAt M P ops (i + 1) (putS s (dstOf ops i) (.slice a'' (n + m) c'')) w' K) : OpsAt M P ops i s w K := by
  unfold appQ at hq
  split at hq
  · rename_i o ho
    split at hq
    · rename_i x y t t' hop
      split at hq
      · rename_i e' f a1 n1 c1 a2 n2 c2 hu hi hx hy
        split at hq
        · rename_i z hz1 hz2 hz
          split at hq
          · rename_i hz3 hz4
            simp only [Option.some.injEq, Prod.mk.injEq] at hq
            obtain ⟨⟨rfl, rfl, rfl⟩, ⟨rfl, rfl, rfl⟩, rfl, rfl⟩ := hq
            obtain rfl := of_decide_eq_true hz1
            obtain rfl := of_decide_eq_true hz2
            have hB := hs.size
            obtain ⟨l1, s1, key⟩ := St.part (pre := [rowA e' f.size (.slice a1 n1 c1) n1 xs]) hs
            obtain ⟨m1, m2, ⟨g1, g2⟩, k1, k2, k3⟩ := s1
            obtain ⟨v', w', hr, hown', hgr, hfoot⟩ := run_append_row (P := P) w B t o.type e' f z hu hi hz (of_decide_eq_true hz3) (of_decide_eq_true hz4) _ n1 xs g1 a2 n2 c2 hc news hl hnews h1 h63 hbytes hB
            have hv' : ∃ a'' c'', v' = .slice a'' (n1 + n2) c'' := by
              rcases hown'.2 with ⟨rfl, h0⟩ | ⟨g, cap, cur, rfl, _⟩
              · exact ⟨none, 0, by rw [h0]⟩
              · exact ⟨_, _, rfl⟩
            obtain ⟨a'', c'', rfl⟩ := hv'
            refine ops_runs ho (v := .slice a'' (n1 + n2) c'') (w' := w') ?_ (hk a'' c'' w' ?_)
            · have hx' : evS s x = .slice a1 n1 c1 := hx
              simp only [execOp, hop, resolve, invoke, builtin, Sem.run_bind, Sem.run_pure, Result.andThen_ok, List.map_toArray, List.map_cons, List.map_nil, hx, hy, hr]
            · refine key w' [rowA e' f.size (.slice a'' (n1 + n2) c'') (n1 + n2) (xs ++ news)] (Value.ownBlock (.slice a'' (n1 + n2) c'')).toList ⟨_, [], ⟨hown', rfl⟩, fun b => by simp, fun b _ => by simp, by simp⟩ ?_
              refine ⟨hgr.os, hgr.tape, hgr.output, hgr.size, ?_, ?_⟩
              · intro b hb hbl
                refine hgr.block b hb fun e => hbl ((k3 b).2 (.inl ?_))
                rw [g2, ← e]
                simp
              · intro b hb
                simp only [Option.mem_toList] at hb
                refine (hfoot b hb).imp (fun h => (k3 b).2 (.inl ?_)) id
                rw [g2, h]
                simp
          · cases hq
        · cases hq
      · cases hq
    · cases hq
  · cases hq
end
end Go.Proofs.YtmmclabkkigiaaaGreat

namespace Go.Proofs.YtmmclabkkigiaaaGreat
open Go Go.RowKit
def vlook (l : List (Int × Int)) (k : Int) : Option Int := (l.find? (fun p => p.1 == k)).map (·.2)
def vset (l : List (Int × Int)) (k v : Int) : List (Int × Int) :=
  match vlook l k with
  | some _ => l.map fun p => if p.1 = k then (k, v) else p
  | none => l ++ [(k, v)]
def Keys (l : List (Int × Int)) : Prop := (l.map (·.1)).Nodup
def entryOf (e : MapEntry) : Value × Value := (e.key, e.val)
def pairOf (p : Int × Int) : Value × Value := (.int .i64 p.1, .int .u64 p.2)
def mapA (b : Nat) (l : List (Int × Int)) : Asn where
  P B w lf := lf = [b] ∧ B ≤ b ∧ ∃ es clock, w.heap[b]? = some (.map es clock) ∧ es.toList.map entryOf = l.map pairOf
  stable := by
    rintro B w w' lf ⟨rfl, hB, es, clock, hb, he⟩ hz h
    exact ⟨rfl, hB, es, clock, (h b (Array.getElem?_eq_some_iff.1 hb).1 (.inr (by simp))).trans hb, he⟩
  low := by
    rintro B w lf ⟨rfl, hB, es, clock, hb, he⟩ c hc
    simp only [List.mem_singleton] at hc
    subst hc
    exact ⟨hB, (Array.getElem?_eq_some_iff.1 hb).1⟩
def MapAt (b : Nat) (l : List (Int × Int)) (w : World) : Prop := ∃ es clock, w.heap[b]? = some (.map es clock) ∧ es.toList.map entryOf = l.map pairOf
theorem findNow_pairs (k : Int) : ∀ (es : List MapEntry) (l : List (Int × Int)) (i : Nat), es.map entryOf = l.map pairOf →
    ∃ r, Instr.findNow (.int .i64) (.int .i64 k) es i = some r ∧ ((vlook l k = none ∧ r = none) ∨ ∃ v j, vlook l k = some v ∧ r = some (i + j, .int .u64 v) ∧ (es[j]?).map (·.key) = some (.int .i64 k) ∧
      (Keys l → es.length = l.length ∧ ((es.modify j fun e => { e with key := .int .i64 k, val := e.val }).map entryOf = l.map pairOf) ∧ ∀ v', (es.modify j fun e => { e with key := .int .i64 k, val := .int .u64 v' }).map entryOf = (vset l k v').map pairOf))
  | [], [], i, _ => ⟨none, rfl, .inl ⟨rfl, rfl⟩⟩
  | [], _ :: _, _, h => by simp at h
  | _ :: _, [], _, h => by simp at h
  | e :: es, p :: l, i, h => by
    simp only [List.map_cons, List.cons.injEq] at h
    obtain ⟨h1, h2⟩ := h
    simp only [entryOf, pairOf, Prod.mk.injEq] at h1
    obtain ⟨hk, hv⟩ := h1
    by_cases hp : p.1 = k
    · refine ⟨some (i, .int .u64 p.2), ?_, .inr ⟨p.2, 0, ?_, by simp, by simp [hk, hp], ?_⟩⟩
      · simp [Instr.findNow, Instr.sameNow, hk, hv, hp]
      · simp [vlook, hp]
      · intro hn
        have hlen : es.length = l.length := by have := congrArg List.length h2; simpa using this
        have hnot : ∀ q ∈ l, ¬ q.1 = k := by
          simp only [Keys, List.map_cons, List.nodup_cons, List.mem_map, not_exists, not_and] at hn
          intro q hq hqk
          exact hn.1 q hq (hqk.trans hp.symm)
        refine ⟨by simp [hlen], ?_, fun v' => ?_⟩
        · simp [List.modify, entryOf, pairOf, hv, hp, h2]
        · have hmap : l.map (fun q => if q.1 = k then (k, v') else q) = l := by
            refine (List.map_congr_left fun q hq => ?_).trans (List.map_id l)
            rw [if_neg (hnot q hq)]; rfl
          have e1 : vset (p :: l) k v' = (k, v') :: l := by
            simp only [vset, vlook, List.find?_cons, hp, beq_self_eq_true, Option.map_some, List.map_cons, if_true, hmap]
          rw [e1]
          simp [List.modify, entryOf, pairOf, h2]
    · obtain ⟨r, hr, hh⟩ := findNow_pairs k es l (i + 1) h2
      have hne : (k == p.1) = false := by simp; exact fun h => hp h.symm
      refine ⟨r, ?_, ?_⟩
      · simp only [Instr.findNow, Instr.sameNow, hk, if_true, hne]
        exact hr
      · have hl : vlook (p :: l) k = vlook l k := by
          have : (p.1 == k) = false := by simp [hp]
          simp [vlook, this]
        rcases hh with ⟨a, b⟩ | ⟨v, j, a, b, c, d⟩
        · exact .inl ⟨hl.trans a, b⟩
        · refine .inr ⟨v, j + 1, hl.trans a, by rw [b]; congr 2; omega, by simpa using c, fun hn => ?_⟩
          have hn' : Keys l := by simp only [Keys, List.map_cons, List.nodup_cons] at hn; exact hn.2
          obtain ⟨d1, d2, d3⟩ := d hn'
          refine ⟨by simp [d1], ?_, fun v' => ?_⟩
          · simp only [List.modify_succ_cons, List.map_cons, d2]
            simp [entryOf, pairOf, hk, hv]
          · simp only [List.modify_succ_cons, List.map_cons, d3 v']
            have e1 : vset (p :: l) k v' = p :: vset l k v' := by
              simp only [vset, hl, a]
              simp [hp]
            rw [e1]
            simp [entryOf, pairOf, hk, hv]
section
variable {M : Bool} {P : Program} {ops : Array Oper} {i : Nat} {s : Fs} {w : World} {K : Fs → World → Prop}
def lookQ (P : Program) (ops : Array Oper) (i : Nat) (s : Fs) : Option (Nat × Int × Bool) :=
  match opQ ops i s with
  | some o => match o.op with
    | .lookup t x y ok => match P.underlying t, evS s x, evS s y with
      | some (.map kt et), .map (some b), .int .i64 k => match P.underlying kt, P.info? et with
        | some (.int .i64), some f => match f.zero with
          | some (.int .u64 0) => some (b, k, ok)
          | _ => none
        | _, _ => none
      | _, _, _ => none
    | _ => none
  | none => none
theorem run_checkKey (P : Program) (e : Bool) (kt : TypeId) (q : IntKind) (v : Value) (w : World) (h : P.underlying kt = some (.int q)) : (Instr.checkKey e 10000 kt v).run P w = .ok () w := by
  unfold Instr.checkKey
  rw [Sem.run_bind, run_underlying h]
  simp only [Result.andThen_ok]
  cases v <;> rfl
theorem runs_lookup {b : Nat} {k : Int} {ok : Bool} {l : List (Int × Int)} (hm : MapAt b l w) (hq : lookQ P ops i s = some (b, k, ok)) :
    RunsTo P ops i s w (match ok with | true => .tuple #[.int .u64 ((vlook l k).getD 0), .bool (vlook l k).isSome] | false => .int .u64 ((vlook l k).getD 0)) w := by
  unfold lookQ at hq
  split at hq
  · rename_i o ho
    split at hq
    · rename_i t x y ok' hop
      split at hq
      · rename_i kt et b' k' hu hx hy
        split at hq
        · rename_i f hkt hf
          split at hq
          · rename_i hz
            simp only [Option.some.injEq, Prod.mk.injEq] at hq
            obtain ⟨rfl, rfl, rfl⟩ := hq
            obtain ⟨es, clock, hb, he⟩ := hm
            obtain ⟨r, hr, hh⟩ := findNow_pairs k' es.toList l 0 he
            refine ⟨_, ho, ?_⟩
            have hzv : (zeroValue et).run P w = .ok (.int .u64 0) w := by simp [zeroValue, typeInfo, hf, hz]
            have hget : (getObj b').run P w = .ok (.map es clock) w := by simp [getObj, Sem.run, hb]
            have hfind : (Instr.findKey kt (.int .i64 k') es.toList).run P w = .ok r w := by
              unfold Instr.findKey
              rw [Sem.run_bind, run_underlying hkt]
              simp only [Result.andThen_ok, hr]
              rfl
            simp only [execOp, hop, hx, hy, Instr.lookup, Sem.run_bind, Sem.run_pure, Result.andThen_ok, run_underlying hu, hget, run_checkKey P _ kt .i64 _ w hkt, hfind]
            rcases hh with ⟨h1, rfl⟩ | ⟨v, j, h1, rfl, _, _⟩
            · simp only [Sem.run_bind, Sem.run_pure, Result.andThen_ok, hzv, h1]
              cases ok' <;> rfl
            · simp only [Sem.run_bind, Sem.run_pure, Result.andThen_ok, h1]
              cases ok' <;> rfl
          · cases hq
        · cases hq
      · cases hq
    · cases hq
  · cases hq
end
end Go.Proofs.YtmmclabkkigiaaaGreat

namespace Go.Proofs.YtmmclabkkigiaaaGreat
open Go Go.RowKit
theorem take_writeAt : ∀ (vs cs : List Value) (off m : Nat), off + vs.length ≤ m → (writeAt cs off vs).take m = writeAt (cs.take m) off vs
  | [], _, _, _, _ => rfl
  | v :: r, cs, off, m, h => by
    simp only [List.length_cons] at h
    rw [writeAt, writeAt, take_writeAt r _ _ _ (by omega), List.take_set]
section
variable {B : Nat} {w0 w w' : World} {l0 : List Nat} {H R : List Asn}
theorem St.row_of_blk {b n size : Nat} {cs : List Value} {e : TypeId} (hs : St B w0 l0 w (blk b (.cells cs.toArray e (0, 0)) :: R)) (hl : cs.length = n * size) (hm : n ≤ maxLen) :
    St B w0 l0 w (rowA e size (.slice (some ⟨b, 0, none⟩) n n) n cs :: R) := by
  refine St.conv hs ?_
  rintro l _ ⟨h1, h2, rfl⟩
  refine ⟨⟨hl, .inr ⟨b, n, cs.toArray, rfl, h1, h2, Nat.le_refl _, hm, by simpa using hl, ?_⟩⟩, rfl⟩
  rw [← hl]
  simp
theorem St.row_nil (hs : St B w0 l0 w R) (e : TypeId) (size : Nat) : St B w0 l0 w (rowA e size (.slice none 0 0) 0 [] :: R) :=
  St.step0 (post := [rowA e size (.slice none 0 0) 0 []]) hs ⟨[], ⟨[], [], ⟨World.ownsRow_nil w B e size, rfl⟩, fun b => by simp, fun b => by simp, by simp⟩, Upd.refl w []⟩
theorem St.cells (hs : St B w0 l0 w H) (j : Nat) {e : TypeId} {size k c n : Nat} {a : Option Addr} {xs : List Value} (hj : H[j]? = some (rowA e size (.slice a k c) n xs)) : CellsAt a xs w := by
  obtain ⟨l, sep⟩ := hs.sep
  clear hs
  induction H generalizing j l with
  | nil => simp at hj
  | cons A H ih =>
    obtain ⟨l1, l2, h1, h2, _, _⟩ := sep
    cases j with
    | zero =>
      simp only [List.getElem?_cons_zero, Option.some.injEq] at hj
      subst hj
      exact rowA_cells h1
    | succ j => exact ih j (by simpa using hj) l2 h2
theorem St.rowLen (hs : St B w0 l0 w H) (j : Nat) {e : TypeId} {size k c n : Nat} {a : Option Addr} {xs : List Value} (hj : H[j]? = some (rowA e size (.slice a k c) n xs)) : xs.length = n * size ∧ k = n ∧ (a = none → c = 0) ∧ n ≤ c ∧ c ≤ maxLen := by
  obtain ⟨l, sep⟩ := hs.sep
  clear hs
  induction H generalizing j l with
  | nil => simp at hj
  | cons A H ih =>
    obtain ⟨l1, l2, h1, h2, _, _⟩ := sep
    cases j with
    | zero =>
      simp only [List.getElem?_cons_zero, Option.some.injEq] at hj
      subst hj
      obtain ⟨⟨h1, hh⟩, _⟩ := h1
      refine ⟨h1, ?_⟩
      rcases hh with ⟨hv, rfl⟩ | ⟨g, cap, cur, hv, _, _, hnc, hcm, _⟩
      · cases hv; exact ⟨rfl, fun _ => rfl, Nat.le_refl _, Nat.zero_le _⟩
      · cases hv; exact ⟨rfl, by simp, hnc, hcm⟩
    | succ j => exact ih j (by simpa using hj) l2 h2
end
section
variable {M : Bool} {P : Program} {ops : Array Oper} {i : Nat} {s : Fs} {w w' : World} {K : Fs → World → Prop}
theorem ops_storeRow {B : Nat} {w0 : World} {l0 : List Nat} {R : List Asn} {e : TypeId} {size n c j : Nat} {a : Option Addr} {vs xs : List Value} (hs : St B w0 l0 w (rowA e size (.slice a n c) n xs :: R))
    (hq : storeQ P ops i s = some (adr a j, vs)) (hl : j + vs.length ≤ xs.length) (h0 : vs ≠ []) (hv : vs.all Value.oneCell' = true)
    (hk : ∀ w', St B w0 l0 w' (rowA e size (.slice a n c) n (writeAt xs j vs) :: R) → OpsAt M P ops (i + 1) (putS s (dstOf ops i) undef) w' K) : OpsAt M P ops i s w K := by
  have hrow : w.ownsRow B e size (.slice a n c) n xs := by
    obtain ⟨l, sep⟩ := hs.sep
    obtain ⟨_, _, h1, _⟩ := sep
    exact h1.1
  obtain ⟨hlen, hrow⟩ := hrow
  have h0' : 0 < vs.length := List.length_pos_iff.2 h0
  rcases hrow with ⟨hv', rfl⟩ | ⟨g, cap, cur, hv', hBg, hg, hnc, hcm, hcs, htake⟩
  · rw [Nat.zero_mul] at hlen; omega
  · cases hv'
    have hadd : adr (some ⟨g, 0, none⟩) j = ⟨g, j, none⟩ := by unfold adr Addr.add; split <;> simp_all
    rw [hadd] at hq
    have hcur : cur = cur.toList.toArray := by simp
    have hle : xs.length ≤ cur.toList.length := by rw [← htake]; simp only [List.length_take]; omega
    obtain ⟨w', h1, h2, h3⟩ := run_storeCells_blk (P := P) g e j vs 0 cur.toList w (by rw [← hcur]; exact hg) (by simp only [Array.length_toList] at *; omega) hv
    have hst : St B w0 l0 w' (rowA e size (.slice (some ⟨g, 0, none⟩) n c) n (writeAt xs j vs) :: R) := by
      refine St.step1 (post := [rowA e size (.slice (some ⟨g, 0, none⟩) n c) n (writeAt xs j vs)]) hs ?_
      rintro l ⟨_, rfl⟩
      refine ⟨[g], ⟨[g], [], ⟨⟨by rw [writeAt_length]; exact hlen, .inr ⟨g, c, _, rfl, hBg, h2, hnc, hcm, ?_, ?_⟩⟩, rfl⟩, fun c => by simp, fun c _ => by simp, by simp⟩, ?_⟩
      · simpa [writeAt_length] using hcs
      · simp only [Nat.add_zero]
        rw [take_writeAt _ _ _ _ (by omega), htake]
      · simpa [Value.ownBlock] using h3
    have hk' := hk w' hst
    unfold storeQ at hq
    split at hq
    · rename_i o ho
      split at hq
      · rename_i ty x y hop
        refine ops_runs0 ho ?_ hk'
        split at hq
        · rename_i f a hi hx
          split at hq
          · rename_i hsz
            simp only [Option.some.injEq, Prod.mk.injEq] at hq
            obtain ⟨rfl, rfl⟩ := hq
            have hz := of_decide_eq_true hsz
            have hso : (sizeOf ty).run P w = .ok f.size w := by simp [sizeOf, typeInfo, hi]
            simp only [execOp, hop, hx, Instr.storeAt, Instr.sureAddr, storeVar, Sem.run_bind, Sem.run_pure, Result.andThen_ok, hso, hz, ne_eq, not_true_eq_false, if_false, h1]
          · cases hq
        · cases hq
      · cases hq
    · cases hq
def sliceQ (P : Program) (ops : Array Oper) (i : Nat) (s : Fs) : Option ((Option Addr × Nat × Nat) × Option Int × Option Int × Nat) :=
  match opQ ops i s with
  | some o => match o.op with
    | .slice t x lo hi none => match P.underlying t, evS s x with
      | some (.slice e), .slice a n c => match P.info? e, (match lo with | none => some none | some y => match evS s y with | .int _ k => some (some k) | _ => none), (match hi with | none => some none | some y => match evS s y with | .int _ k => some (some k) | _ => none) with
        | some f, some l, some h => some ((a, n, c), l, h, f.size)
        | _, _, _ => none
      | _, _ => none
    | _ => none
  | none => none
theorem runs_slice {a : Option Addr} {n c size : Nat} {lo hi : Option Int} (k m : Nat) (hlo : lo = some (k : Int) ∨ lo = none ∧ k = 0) (hhi : hi = some (m : Int) ∨ hi = none ∧ m = n) (h1 : k ≤ m) (h2 : m ≤ c)
    (hq : sliceQ P ops i s = some ((a, n, c), lo, hi, size)) : RunsTo P ops i s w (.slice (if c = k then a else a.map (·.add (k * size))) (m - k) (c - k)) w := by
  unfold sliceQ at hq
  split at hq
  · rename_i o ho
    split at hq
    · rename_i t x lo' hi' hop
      refine ⟨_, ho, ?_⟩
      split at hq
      · rename_i e a' n' c' hu hx
        split at hq
        · rename_i f l h hf hl hh
          simp only [Option.some.injEq, Prod.mk.injEq] at hq
          obtain ⟨⟨rfl, rfl, rfl⟩, rfl, rfl, rfl⟩ := hq
          have hso : (sizeOf e).run P w = .ok f.size w := by simp [sizeOf, typeInfo, hf]
          have hun := run_underlying (P := P) hu w
          have hb : ∀ (x : Value) (q : IntKind) (z : Nat) (y : Nat) (code : BoundsCode), x = .int q (z : Int) → z ≤ y → (Instr.sliceBound x y code).run P w = .ok z w := by
            rintro x q z y code rfl hzy
            have : (0 : Int) ≤ (z : Int) ∧ (z : Int) ≤ (y : Int) := ⟨by omega, by omega⟩
            simp only [Instr.sliceBound, asIntOf, Sem.run_bind, Sem.run_pure, Result.andThen_ok, if_pos this, Int.toNat_natCast]
          have hbounds : (Instr.sliceBounds true n' c' (lo'.map (evS s)) (hi'.map (evS s)) none).run P w = .ok (k, m, c') w := by
            unfold Instr.sliceBounds
            simp only [Sem.run_bind, Sem.run_pure, Result.andThen_ok]
            have hm : (match hi'.map (evS s), (none : Option Value) with
                | some v, some _ => Instr.sliceBound v c' .slice3B
                | some v, none => Instr.sliceBound v c' (if true = true then .sliceAcap else .sliceAlen)
                | none, none => pure n'
                | none, some _ => stuck "Slice: max without high").run P w = .ok m w := by
              cases hi' with
              | none =>
                simp only [Option.some.injEq] at hh
                subst hh
                rcases hhi with hhi | ⟨_, rfl⟩
                · cases hhi
                · rfl
              | some y =>
                simp only at hh
                split at hh
                · rename_i q z hy
                  cases hh
                  rcases hhi with hhi | ⟨hhi, _⟩
                  · cases hhi
                    exact hb _ q m _ _ hy h2
                  · cases hhi
                · cases hh
            have hk : (match lo'.map (evS s) with
                | some v => Instr.sliceBound v m (if (none : Option Value).isSome = true then .slice3C else .sliceB)
                | none => pure 0).run P w = .ok k w := by
              cases lo' with
              | none =>
                simp only [Option.some.injEq] at hl
                subst hl
                rcases hlo with hlo | ⟨_, rfl⟩
                · cases hlo
                · rfl
              | some y =>
                simp only at hl
                split at hl
                · rename_i q z hy
                  cases hl
                  rcases hlo with hlo | ⟨hlo, _⟩
                  · cases hlo
                    exact hb _ q k _ _ hy h1
                  · cases hlo
                · cases hl
            cases hi' <;> simp only [Option.map_none, Option.map_some] at hm ⊢ <;> rw [Sem.run_bind, hm] <;> simp only [Result.andThen_ok] <;> cases lo' <;> simp only [Option.map_none, Option.map_some] at hk ⊢ <;> rw [Sem.run_bind, hk] <;> rfl
          have hxx : (Instr.sliceAt t (evS s x) (lo'.map (evS s)) (hi'.map (evS s)) none).run P w = .ok (.slice (if c' = k then a' else a'.map (·.add (k * f.size))) (m - k) (c' - k)) w := by
            unfold Instr.sliceAt
            simp only [Sem.run_bind, hun, Result.andThen_ok, hx]
            unfold Instr.slice
            simp only [Sem.run_bind, hun, Result.andThen_ok, hbounds, hso, Sem.run_pure]
          simp only [execOp, hop, Option.map_none, Sem.run_bind, hxx, Result.andThen_ok, Sem.run_pure]
        · cases hq
      · cases hq
    · cases hq
  · cases hq
end
end Go.Proofs.YtmmclabkkigiaaaGreat

namespace Go.Proofs.YtmmclabkkigiaaaGreat
open Go Go.RowKit
def sub (m L : Nat) : Bool := Nat.beq (Nat.land m L) m
theorem sub_iff {m L : Nat} : sub m L = true ↔ ∀ j, m.testBit j = true → L.testBit j = true := by
  unfold sub
  constructor
  · intro h j hj
    have e : m &&& L = m := Nat.eq_of_beq_eq_true h
    rw [← e, Nat.testBit_and, Bool.and_eq_true] at hj
    exact hj.2
  · intro h
    have e : m &&& L = m := by
      refine Nat.eq_of_testBit_eq fun j => ?_
      rw [Nat.testBit_and]
      cases hm : m.testBit j with
      | false => rfl
      | true => rw [h j hm]; rfl
    show Nat.beq (m &&& L) m = true
    rw [e]
    exact Nat.beq_refl m
def orBits {α : Type} (c : α → Bool) (f : α → Nat) : List α → Nat
  | [] => 0
  | e :: l => bif c e then Nat.lor (Nat.shiftLeft 1 (f e)) (orBits c f l) else orBits c f l
theorem orBits_bit {α : Type} (c : α → Bool) (f : α → Nat) (j : Nat) : ∀ l : List α, (orBits c f l).testBit j = l.any fun e => c e && f e == j
  | [] => by simp [orBits]
  | e :: l => by
    have h1 : ∀ a b : Nat, Nat.lor a b = a ||| b := fun _ _ => rfl
    have h2 : Nat.shiftLeft 1 (f e) = 2 ^ f e := by
      show 1 <<< f e = _
      rw [Nat.one_shiftLeft]
    simp only [orBits, List.any_cons, ← orBits_bit c f j l]
    cases c e with
    | false => simp
    | true =>
      simp only [cond_true, h1, h2, Nat.testBit_or, Nat.testBit_two_pow, Bool.true_and]
      by_cases hj : f e = j <;> simp [hj]
def afterM (o : Oper) : Nat := orBits (fun e => Region.binds .any e) (fun e => e.on) o.after.toList
def freeM (ops : Array Oper) (i : Nat) (oi : Oper) : Nat :=
  orBits (fun j => !(Nat.beq j i || match ops[j]? with
    | some oj => oj.after.any (fun e => Region.binds .any e && e.on == i) || oi.apart ops oj
    | none => true)) id (List.range ops.size)
def tabOf (ops : Array Oper) : List (Nat × Nat) := (List.range ops.size).map fun i => match ops[i]? with
  | some o => (afterM o, freeM ops i o)
  | none => (0, 0)
def Mask (n : Nat) (listed : Array Bool) (L : Nat) : Prop := listed.size = n ∧ ∀ j, listed.getD j false = L.testBit j
def readyM (T : List (Nat × Nat)) (L : Nat) : List Nat := (List.range T.length).filter fun i => !L.testBit i && sub (T.getD i (0, 0)).1 L
def takeB (T : List (Nat × Nat)) (i L : Nat) : Bool := Nat.blt i T.length && (!L.testBit i && (sub (T.getD i (0, 0)).1 L && sub (T.getD i (0, 0)).2 L))
section
variable {ops : Array Oper} {T : List (Nat × Nat)} {listed : Array Bool} {L : Nat}
theorem tab_get (hT : tabOf ops = T) {i : Nat} {o : Oper} (ho : ops[i]? = some o) : T.getD i (0, 0) = (afterM o, freeM ops i o) := by
  subst hT
  obtain ⟨hi, he⟩ := Array.getElem?_eq_some_iff.1 ho
  subst he
  simp [tabOf, hi]
theorem mask_true (hm : Mask ops.size listed L) {i : Nat} (hi : i < ops.size) : listed.getD i true = L.testBit i := by
  rw [← hm.2 i]
  simp [Array.getD, hm.1, hi]
theorem mask_after (hT : tabOf ops = T) (hm : Mask ops.size listed L) {i : Nat} {o : Oper} (ho : ops[i]? = some o) :
    (o.after.all fun e => !Region.binds .any e || listed.getD e.on false) = sub (T.getD i (0, 0)).1 L := by
  rw [tab_get hT ho]
  rw [Bool.eq_iff_iff, sub_iff]
  simp only [Array.all_eq_true_iff_forall_mem, afterM, orBits_bit, List.any_eq_true, Bool.and_eq_true, beq_iff_eq, Bool.or_eq_true, Bool.not_eq_true', hm.2]
  constructor
  · rintro h j ⟨e, he, hb, rfl⟩
    rcases h e (by simpa using he) with h | h
    · rw [hb] at h; cases h
    · exact h
  · intro h e he
    cases hb : Region.binds .any e with
    | false => exact .inl rfl
    | true => exact .inr (h e.on ⟨e, by simpa using he, hb, rfl⟩)
theorem mask_ready (hT : tabOf ops = T) (hm : Mask ops.size listed L) : Region.ready .any ops listed = readyM T L := by
  have hl : T.length = ops.size := by subst hT; simp [tabOf]
  unfold Region.ready readyM
  rw [hl]
  refine List.filter_congr fun i hi => ?_
  have hi' : i < ops.size := by simpa using hi
  have ho : ops[i]? = some ops[i] := by simp [hi']
  rw [mask_true hm hi', ho]
  simp only [Option.map_some, Option.getD_some]
  rw [mask_after hT hm ho]
theorem mask_free (hT : tabOf ops = T) (hm : Mask ops.size listed L) {i : Nat} {o : Oper} (ho : ops[i]? = some o) (h : sub (T.getD i (0, 0)).2 L = true) : Region.free .any ops listed i = true := by
  rw [tab_get hT ho, sub_iff] at h
  simp only [Region.free, ho, List.all_eq_true, List.mem_range, Bool.or_eq_true, beq_iff_eq]
  intro j hj
  rw [mask_true hm hj]
  by_cases hji : j = i
  · exact .inl (.inl hji)
  · cases hL : L.testBit j with
    | true => exact .inl (.inr rfl)
    | false =>
      refine .inr ?_
      have h1 := h j
      simp only [freeM, orBits_bit, List.any_eq_true, id, Bool.and_eq_true, beq_iff_eq] at h1
      cases hc : (match ops[j]? with
        | some oj => oj.after.any (fun e => Region.binds .any e && e.on == i) || o.apart ops oj
        | none => true) with
      | true => exact hc
      | false =>
        exfalso
        have h2 := h1 ⟨j, by simpa using hj, ?_, rfl⟩
        · rw [hL] at h2; cases h2
        · have hne : Nat.beq j i = false := by
            cases hb : Nat.beq j i with
            | false => rfl
            | true => exact (hji (Nat.eq_of_beq_eq_true hb)).elim
          rw [hne, hc]
          rfl
theorem mask_set (hm : Mask ops.size listed L) {i : Nat} (hi : i < ops.size) : Mask ops.size (listed.setIfInBounds i true) (Nat.lor L (Nat.shiftLeft 1 i)) := by
  refine ⟨by simpa using hm.1, fun j => ?_⟩
  have h1 : ∀ a b : Nat, Nat.lor a b = a ||| b := fun _ _ => rfl
  have h2 : Nat.shiftLeft 1 i = 2 ^ i := by
    show 1 <<< i = _
    rw [Nat.one_shiftLeft]
  rw [h1, h2, Nat.testBit_or, Nat.testBit_two_pow, ← hm.2 j]
  by_cases e : i = j
  · subst e
    simp [hm.1, hi]
  · simp [Array.getD_eq_getD_getElem?, Array.getElem?_setIfInBounds, e]
theorem mask_none (n : Nat) : Mask n (Array.replicate n false) 0 := by
  refine ⟨by simp, fun j => ?_⟩
  simp only [Array.getD_eq_getD_getElem?, Array.getElem?_replicate, Nat.zero_testBit]
  split <;> rfl
end
theorem take_ready {ops : Array Oper} {T : List (Nat × Nat)} {listed : Array Bool} {L i : Nat} (hT : tabOf ops = T) (hm : Mask ops.size listed L) (hi : i < T.length) (h1 : (!L.testBit i) = true) (h2 : sub (T.getD i (0, 0)).1 L = true) :
    (Region.ready .any ops listed).contains i = true := by
  rw [mask_ready hT hm]
  unfold readyM
  rw [List.contains_iff_mem, List.mem_filter, List.mem_range]
  exact ⟨hi, by rw [h1, h2]; rfl⟩
def tabB (ops : Array Oper) (T : List (Nat × Nat)) : Bool := eqP (tabOf ops) T
where eqP : List (Nat × Nat) → List (Nat × Nat) → Bool
  | [], [] => true
  | (a, b) :: l, (c, d) :: m => Nat.beq a c && (Nat.beq b d && eqP l m)
  | _, _ => false
theorem tabB_eqP : ∀ l m : List (Nat × Nat), tabB.eqP l m = true → l = m
  | [], [], _ => rfl
  | (a, b) :: l, (c, d) :: m, h => by
    simp only [tabB.eqP, Bool.and_eq_true] at h
    rw [Nat.eq_of_beq_eq_true h.1, Nat.eq_of_beq_eq_true h.2.1, tabB_eqP l m h.2.2]
  | [], _ :: _, h => by simp [tabB.eqP] at h
  | _ :: _, [], h => by simp [tabB.eqP] at h
theorem tabB_eq {ops : Array Oper} {T : List (Nat × Nat)} (h : tabB ops T = true) : tabOf ops = T := tabB_eqP _ _ h
structure AnyAt (P : Program) (ops : Array Oper) (T : List (Nat × Nat)) (S : World → Prop) (fuel : Nat) (L : Nat) (s : Fs) (w : World) (K : Fs → World → Prop) : Prop where
  out : Region.noSelect ops = true → tabOf ops = T → ∀ x listed, Rel x s → Mask ops.size listed L → wpAnyH P .any ops (fun e y w => e = .normal ∧ ∃ s', Rel y s' ∧ s'.r = s.r ∧ K s' w) S fuel listed x w
def valVQ (P : Program) (ops : Array Oper) (i : Nat) (s : Fs) (w : World) : Option (Value × World) :=
  match opQ ops i s with
  | some o => match (execOp (evS s) o).run P w with
    | .ok (.value v) w' => some (v, w')
    | _ => none
  | none => none
def alone (ops : Array Oper) (i : Nat) : Array Oper := #[{ ops.getD i default with guard := none }]
section
variable {M : Bool} {P : Program} {ops : Array Oper} {T : List (Nat × Nat)} {S : World → Prop} {s : Fs} {w : World} {K : Fs → World → Prop}
theorem any_R (i : Nat) {fuel : Nat} {L : Nat} {v : Value} (hb : takeB T i L = true) (hy : ∀ w', S w' → RunsTo P ops i s w' v w') (hS : S w)
    (h : AnyAt P ops T S fuel (Nat.lor L (Nat.shiftLeft 1 i)) (putS s (dstOf ops i) v) w K) : AnyAt P ops T S (fuel + 1) L s w K := by
  simp only [takeB, Bool.and_eq_true] at hb
  obtain ⟨o, ho, _⟩ := hy w hS
  obtain ⟨h1, h2, h3, h4⟩ := opQ_some' ho
  refine ⟨fun hsel hT x listed hx hmk => ?_⟩
  have hr' := rel_put hx h4 v
  have hi := (Array.getElem?_eq_some_iff.1 h1).1
  refine wpAnyH_take h1 hsel (mask_free hT hmk h1 hb.2.2.2) (take_ready hT hmk (by subst hT; simpa [tabOf] using hi) hb.2.1 hb.2.2.1) (fun _ _ _ h => absurd h.1 (by simp)) (v := v) (.inl ⟨by rw [yield_rel hx]; exact h2, fun w' hS' => ?_⟩) hS ?_
  · obtain ⟨o', ho', hr⟩ := hy w' hS'
    rw [ho] at ho'
    cases ho'
    rw [ev_rel hx]
    exact hr
  · rw [h3] at h
    have h5 := h.out hsel hT _ _ hr' (mask_set hmk hi)
    simp only [put_r] at h5
    exact h5
theorem any_val {v v' : Value} (i : Nat) {fuel : Nat} {L : Nat} (hb : takeB T i L = true) (hr : ∀ w', valVQ P ops i s w' = some (v, w')) (hv : v = v') (hS : S w)
    (h : AnyAt P ops T S fuel (Nat.lor L (Nat.shiftLeft 1 i)) (putS s (dstOf ops i) v') w K) : AnyAt P ops T S (fuel + 1) L s w K := by
  subst hv
  refine any_R i hb (fun w' _ => ?_) hS h
  have hr' := hr w'
  unfold valVQ at hr'
  split at hr'
  · rename_i o ho
    refine ⟨o, ho, ?_⟩
    split at hr'
    · rename_i v' w1 hrun; cases hr'; exact hrun
    · cases hr'
  · cases hr'
def skipQ (ops : Array Oper) (i : Nat) (s : Fs) : Bool :=
  match ops[i]? with
  | some o => !Region.wanted o (yieldS ops s) && inB o.dst s.n
  | none => false
theorem any_skip (i : Nat) {fuel : Nat} {L : Nat} (hb : takeB T i L = true) (hq : skipQ ops i s = true) (hS : S w)
    (h : AnyAt P ops T S fuel (Nat.lor L (Nat.shiftLeft 1 i)) (putS s (dstOf ops i) undef) w K) : AnyAt P ops T S (fuel + 1) L s w K := by
  simp only [takeB, Bool.and_eq_true] at hb
  unfold skipQ at hq
  split at hq
  · rename_i o ho
    simp only [Bool.and_eq_true, Bool.not_eq_true'] at hq
    have h3 : dstOf ops i = o.dst := by simp [dstOf, ho]
    refine ⟨fun hsel hT x listed hx hmk => ?_⟩
    have hr' := rel_put hx hq.2 undef
    have hi := (Array.getElem?_eq_some_iff.1 ho).1
    refine wpAnyH_take ho hsel (mask_free hT hmk ho hb.2.2.2) (take_ready hT hmk (by subst hT; simpa [tabOf] using hi) hb.2.1 hb.2.2.1) (fun _ _ _ h => absurd h.1 (by simp)) (.inr ⟨by rw [yield_rel hx]; exact hq.1, rfl⟩) hS ?_
    rw [h3] at h
    have h5 := h.out hsel hT _ _ hr' (mask_set hmk hi)
    simp only [put_r] at h5
    exact h5
  · cases hq
theorem any_steps (js : List Nat) {fuel : Nat} {L : Nat} (hr : readyM T L = js) (hne : js ≠ []) (ho' : ∀ j ∈ js, (opQ ops j s).isSome = true)
    (h : ∀ j ∈ js, OpsAt false P (alone ops j) 0 s w (fun s' w' => S w' ∧ AnyAt P ops T S fuel (Nat.lor L (Nat.shiftLeft 1 j)) s' w' K)) : AnyAt P ops T S (fuel + 1) L s w K := by
  refine ⟨fun hsel hT x listed hx hmk => wpAnyH_all ((mask_ready hT hmk).trans hr) hne ?_⟩
  intro j hj
  obtain ⟨o, ho⟩ := Option.isSome_iff_exists.1 (ho' j hj)
  obtain ⟨h1, h2, h3, _⟩ := opQ_some' ho
  have hi := (Array.getElem?_eq_some_iff.1 h1).1
  have h := (h j hj).out x hx
  unfold wpOp
  have h2' : Region.wanted o (yielded ops x.tmps) = true := by rw [yield_rel hx]; exact h2
  simp only [h1, h2', if_true]
  have e0 : ops.getD j default = o := by
    have := (Array.getElem?_eq_some_iff.1 h1)
    obtain ⟨hlt, he⟩ := this
    simp [Array.getD, hlt, he]
  have e1 : (alone ops j)[0]? = some { o with guard := none } := by
    simp [alone, e0]
  have hsz : (alone ops j).size = 1 := rfl
  have e2 : Region.wanted { o with guard := none } (yielded (alone ops j) x.tmps) = true := rfl
  have h4 := h (fun e y w' => e = .normal ∧ ∃ s', Rel y s' ∧ s'.r = s.r ∧ (S w' ∧ AnyAt P ops T S fuel (Nat.lor L (Nat.shiftLeft 1 j)) s' w' K)) (fun y w' h => ⟨rfl, h⟩)
  simp only [wpM, hsz, Nat.sub_zero, List.range'_one, wpOps, e1, e2, if_true] at h4
  rcases h4 with h4 | h4
  · refine .inl ?_
    have h' : o.wp P x w (fun y w' => True ∧ ∃ s', Rel y s' ∧ s'.r = s.r ∧ S w' ∧ AnyAt P ops T S fuel (Nat.lor L (Nat.shiftLeft 1 j)) s' w' K) (fun e y w' => e = .normal ∧ ∃ s', Rel y s' ∧ s'.r = s.r ∧ S w' ∧ AnyAt P ops T S fuel (Nat.lor L (Nat.shiftLeft 1 j)) s' w' K) := h4
    clear h4
    unfold Oper.wp at *
    generalize (execOp (Act.eval x) o).run P w = r at *
    have key : ∀ (y : Act) (w : World), (True ∧ ∃ s', Rel y s' ∧ s'.r = s.r ∧ S w ∧ AnyAt P ops T S fuel (Nat.lor L (Nat.shiftLeft 1 j)) s' w K) →
        S w ∧ wpAnyH P .any ops (fun e y w => e = .normal ∧ ∃ s', Rel y s' ∧ s'.r = s.r ∧ K s' w) S fuel (listed.setIfInBounds j true) y w := by
      rintro y w ⟨_, s', hr, hs, hS, h⟩
      have h5 := h.out hsel hT y _ hr (mask_set hmk hi)
      simp only [hs] at h5
      exact ⟨hS, h5⟩
    cases r with
    | ok n w' =>
      cases n <;> simp only [Oper.upon] at h' ⊢ <;>
        first
          | exact key _ _ h'
          | exact Calls.mono h' (fun e w'' he => by
              cases e with
              | returned v => exact key _ _ he
              | panicked c => exact absurd he.1 (by simp)
              | outgrown => obtain ⟨_, _, hf⟩ := he; exact absurd hf.1 (by simp))
          | exact Rows.mono h' (fun _ _ he => key _ _ he)
    | halt x w' => cases x <;> simp only [Oper.upon] at h' ⊢ <;> exact absurd h'.1 (by simp)
  · obtain ⟨_, _, _, hf⟩ := h4
    exact absurd hf.1 (by simp)
theorem any_step (i : Nat) {fuel : Nat} {L : Nat} (hr : readyM T L = [i]) (ho' : (opQ ops i s).isSome = true)
    (h : OpsAt false P (alone ops i) 0 s w (fun s' w' => S w' ∧ AnyAt P ops T S fuel (Nat.lor L (Nat.shiftLeft 1 i)) s' w' K)) : AnyAt P ops T S (fuel + 1) L s w K := by
  refine any_steps [i] hr (by simp) ?_ ?_
  · intro k hk
    simp only [List.mem_singleton] at hk
    subst hk
    exact ho'
  · intro k hk
    simp only [List.mem_singleton] at hk
    subst hk
    exact h
theorem any_set (i : Nat) {v : Value} {fuel : Nat} {L : Nat} (h : s.f i = v) (hk : AnyAt P ops T S fuel L (s.set i v) w K) : AnyAt P ops T S fuel L s w K := by
  rwa [setS i h] at hk
theorem any_done {fuel : Nat} {L : Nat} (hr : readyM T L = []) (h : K s w) : AnyAt P ops T S fuel L s w K :=
  ⟨fun _ hT _ _ hx hmk => wpAnyH_done ((mask_ready hT hmk).trans hr) ⟨rfl, s, hx, rfl, h⟩ fuel⟩
def noDefer (ops : Array Oper) : Bool := ops.toList.all fun o => match o.op with | .defer _ => false | _ => true
theorem wpOps_fen {r : Option Nat} {Q : Exit → Act → World → Prop} (hQ : ¬ LetsOut Q) (hd : noDefer ops = true) : ∀ (l : List Nat) (x : Act) (w : World), wpOps P ops Q l x w → wpOpsIn (fen r) 0 P ops Q l x w
  | [], _, _, h => h
  | i :: rest, x, w, h => by
    simp only [wpOps, wpOpsIn] at h ⊢
    split
    · rename_i ho
      simp only [ho] at h
      exact wpOps_fen hQ hd rest x w h
    · rename_i o ho
      simp only [ho] at h
      split
      · rename_i hw
        simp only [hw, if_true] at h
        rcases h with h | h
        · refine ⟨fun _ _ => trivial, ?_⟩
          have hnd : ∀ c, o.op ≠ .defer c := by
            intro c hc
            simp only [noDefer, List.all_eq_true] at hd
            have := hd o (by simpa using Array.mem_of_getElem? ho)
            simp [hc] at this
          rw [Oper.semAt_eq _ _ _ hnd]
          unfold Oper.wp at h
          generalize (execOp (Act.eval x) o).run P w = res at *
          cases res with
          | ok n w' =>
            cases n <;> simp only [Oper.upon, Oper.uponIn] at h ⊢
            all_goals first
              | exact wpOps_fen hQ hd rest _ _ h
              | exact h.elim
              | exact ⟨fen_depth, calls_fen (Calls.mono h (fun e w'' he => by
                  cases e with
                  | returned v => exact wpOps_fen hQ hd rest _ _ he
                  | panicked c => exact he
                  | outgrown => exact he))⟩
              | exact ⟨fen_depth, fun c cs _ => let ⟨v, w2, h1, h2⟩ := h c cs; ⟨v, w2, wpOps_fen hQ hd rest _ _ h1, stepsIn_wide.2 h2⟩⟩
          | halt y w' => cases y <;> simp only [Oper.upon, Oper.uponIn] at h ⊢ <;> exact h
        · exact (hQ h.2).elim
      · rename_i hw
        simp only [hw] at h
        exact ⟨fun _ _ => trivial, wpOps_fen hQ hd rest _ _ h⟩
theorem W.regionD {id : Nat} {Q : Exit → Fs → World → Prop} (T : List (Nat × Nat)) (S : World → Prop) (hm : (P.follows .mixedOrders && (Region.noSelect ops && (tabB ops T && noDefer ops))) = true) (hS : S w.drew)
    (h : AnyAt P ops T S ops.size 0 s w.drew (Q .normal)) : W P (.region id ops true) s w Q := by
  simp only [Bool.and_eq_true] at hm
  refine ⟨fun x hx => wpIn_mono (Q := fun e y w => e = .normal ∧ ∃ s', Rel y s' ∧ s'.r = s.r ∧ Q .normal s' w) (wpIn_region_draw fun t => wpOps_fen ?_ hm.2.2.2 _ _ _ ?_) ?_⟩
  · rintro ⟨_, _, h, _⟩; cases h
  · simp only [Region.schedule, hm.1, Bool.true_or, if_true]
    exact wpAny_sound ops.size t _ x _ (wpAny_of_held _ _ _ _ (h.out hm.2.1 (tabB_eq hm.2.2.1) x _ hx (mask_none _)))
  · rintro e y w' ⟨rfl, s', h1, h2, h3⟩
    exact ⟨s', h1, h2, h3⟩
end
end Go.Proofs.YtmmclabkkigiaaaGreat

namespace Go.Proofs.YtmmclabkkigiaaaGreat
open Go Go.RowKit
structure Kind (α : Type) where
  e : TypeId
  size : Nat
  elem : α → List Value
  pos : 0 < size
  elen : ∀ x, (elem x).length = size
  eone : ∀ x, (elem x).all Value.oneCell' = true
section
variable {α : Type} (K : Kind α)
def Kind.cells (l : List α) : List Value := l.flatMap K.elem
def Kind.row (a : Option Addr) (c : Nat) (l : List α) : Asn := rowA K.e K.size (.slice a l.length c) l.length (K.cells l)
def Kind.low (a : Option Addr) (l : List α) : Asn := lowA a (K.cells l)
theorem Kind.cells_cons (x : α) (l : List α) : K.cells (x :: l) = K.elem x ++ K.cells l := by simp [Kind.cells]
theorem Kind.cells_append (l m : List α) : K.cells (l ++ m) = K.cells l ++ K.cells m := by simp [Kind.cells]
theorem Kind.length : ∀ l : List α, (K.cells l).length = l.length * K.size
  | [] => by simp [Kind.cells]
  | x :: l => by rw [K.cells_cons, List.length_append, K.elen, Kind.length l, List.length_cons, Nat.add_mul, Nat.one_mul, Nat.add_comm]
theorem Kind.one (l : List α) : ∀ u ∈ K.cells l, u.oneCell' = true := by
  intro u hu
  simp only [Kind.cells, List.mem_flatMap] at hu
  obtain ⟨x, _, hx⟩ := hu
  exact List.all_eq_true.1 (K.eone x) u hx
theorem Kind.get : ∀ {l : List α} {k j : Nat} (d : α), k < l.length → j < K.size → (K.cells l)[k * K.size + j]? = (K.elem (l.getD k d))[j]?
  | x :: l, 0, j, d, _, hj => by
    rw [K.cells_cons, Nat.zero_mul, Nat.zero_add, List.getElem?_append_left (by rw [K.elen]; exact hj)]
    rfl
  | x :: l, k + 1, j, d, hk, hj => by
    rw [K.cells_cons, List.getElem?_append_right (by rw [K.elen, Nat.add_mul]; omega)]
    have e : (k + 1) * K.size + j - (K.elem x).length = k * K.size + j := by rw [K.elen, Nat.add_mul]; omega
    rw [e, Kind.get d (by simpa using hk) hj]
    simp
theorem Kind.addr {a : Option Addr} {l : List α} {w : World} (h : CellsAt a (K.cells l) w) {k : Nat} (hk : k < l.length) : ∃ ad, a = some ad := by
  refine cells_some h ?_
  intro e
  have h1 := K.length l
  rw [e] at h1
  have h2 : 0 < l.length * K.size := Nat.mul_pos (by omega) K.pos
  simp at h1
  omega
theorem Kind.at {a : Option Addr} {l : List α} {w : World} (h : CellsAt a (K.cells l) w) {k : Nat} (hk : k < l.length) (d : α) (j : Nat) {v : Value} (hv : (K.elem (l.getD k d))[j]? = some v) : w.cell? ((adr a (k * K.size)).add j) = some v := by
  have hj : j < K.size := by rw [← K.elen (l.getD k d)]; exact (List.getElem?_eq_some_iff.1 hv).1
  rw [adr_add]
  exact cells_get h (by rw [K.get d hk hj]; exact hv)
theorem Kind.all {a : Option Addr} {l : List α} {w : World} (h : CellsAt a (K.cells l) w) {k : Nat} (hk : k < l.length) (d : α) (o : Nat) {cs : List Value} (hc : ((K.elem (l.getD k d)).drop o).take cs.length = cs) :
    ∀ j v, cs[j]? = some v → w.cell? (((adr a (k * K.size)).add o).add j) = some v := by
  intro j v hv
  rw [add_add]
  refine K.at h hk d (o + j) ?_
  rw [← hc, List.getElem?_take] at hv
  split at hv
  · simpa [List.getElem?_drop] using hv
  · cases hv
theorem Kind.writeAt_app : ∀ (vs a b : List Value) (off : Nat), writeAt (a ++ b) (a.length + off) vs = a ++ writeAt b off vs
  | [], _, _, _ => rfl
  | v :: r, a, b, off => by
    rw [writeAt, writeAt, List.set_append_right _ _ (by omega), show a.length + off - a.length = off by omega, Nat.add_assoc, Kind.writeAt_app r]
theorem Kind.writeAt_left : ∀ (vs a b : List Value) (off : Nat), off + vs.length ≤ a.length → writeAt (a ++ b) off vs = writeAt a off vs ++ b
  | [], _, _, _, _ => rfl
  | v :: r, a, b, off, h => by
    simp only [List.length_cons] at h
    rw [writeAt, writeAt, List.set_append_left _ _ (by omega), Kind.writeAt_left r _ _ _ (by simp; omega)]
theorem Kind.set : ∀ {l : List α} {k : Nat} (d : α) (j : Nat) {vs : List Value} (y : α), k < l.length → j + vs.length ≤ K.size → K.elem y = writeAt (K.elem (l.getD k d)) j vs →
    writeAt (K.cells l) (k * K.size + j) vs = K.cells (l.set k y)
  | x :: l, 0, d, j, vs, y, _, hj, hy => by
    rw [K.cells_cons, Nat.zero_mul, Nat.zero_add, Kind.writeAt_left _ _ _ _ (by rw [K.elen]; exact hj)]
    rw [List.set_cons_zero, K.cells_cons, hy]
    rfl
  | x :: l, k + 1, d, j, vs, y, hk, hj, hy => by
    have e : (k + 1) * K.size + j = (K.elem x).length + (k * K.size + j) := by rw [K.elen, Nat.add_mul]; omega
    rw [K.cells_cons, e, Kind.writeAt_app, Kind.set d j y (by simpa using hk) hj (by simpa using hy), List.set_cons_succ, K.cells_cons]
end
section
variable {α : Type} (K : Kind α) {M : Bool} {P : Program} {ops : Array Oper} {i : Nat} {s : Fs} {w : World} {Q : Fs → World → Prop} {B : Nat} {w0 : World} {l0 : List Nat} {H R : List Asn}
theorem St.kcells (hs : St B w0 l0 w H) (j : Nat) {a : Option Addr} {c : Nat} {l : List α} (hj : H[j]? = some (K.row a c l)) : CellsAt a (K.cells l) w := hs.cells j hj
theorem St.capnil (hs : St B w0 l0 w H) (j : Nat) {a : Option Addr} {c : Nat} {l : List α} (hj : H[j]? = some (K.row a c l)) : a = none → c = 0 := (hs.rowLen j hj).2.2.1
theorem St.knil (hs : St B w0 l0 w R) : St B w0 l0 w (K.row none 0 [] :: R) := St.row_nil hs K.e K.size
theorem St.kblk {b : Nat} {cs : List Value} {e : TypeId} (l : List α) (hs : St B w0 l0 w (blk b (.cells cs.toArray e (0, 0)) :: R)) (he : e = K.e) (hc : cs = K.cells l) (hm : l.length ≤ maxLen) :
    St B w0 l0 w (K.row (some ⟨b, 0, none⟩) l.length l :: R) := by
  subst he hc
  exact St.row_of_blk hs (K.length l) hm
theorem ops_appendK {bytes : Nat} {a a' : Option Addr} {c c' : Nat} {l m : List α} (hs : St B w0 l0 w (K.row a c l :: R)) (hq : appQ P ops i s K.e = some ((a, l.length, c), (a', m.length, c'), K.size, bytes))
    (hc : a' = none → c' = 0) (hm : CellsAt a' (K.cells m) w) (h63 : l.length + m.length ≤ maxLen) (hb : (l.length + m.length) * bytes ≤ 140737488355328)
    (hk : ∀ a'' c'' w', St B w0 l0 w' (K.row a'' c'' (l ++ m) :: R) → OpsAt M P ops (i + 1) (putS s (dstOf ops i) (.slice a'' (l ++ m).length c'')) w' Q) : OpsAt M P ops i s w Q := by
  refine ops_append (xs := K.cells l) (news := K.cells m) hs hq hc (K.length m) hm (K.one m) h63 hb ?_
  intro a'' c'' w' hs'
  have h := hk a'' c'' w'
  rw [List.length_append] at h
  refine h ?_
  unfold Kind.row
  rw [List.length_append, K.cells_append]
  exact hs'
theorem ops_storeK {a : Option Addr} {c k j : Nat} {l : List α} {vs : List Value} (d y : α) (hs : St B w0 l0 w (K.row a c l :: R)) (hkl : k < l.length) (hj : j + vs.length ≤ K.size) (h0 : vs ≠ []) (hv : vs.all Value.oneCell' = true)
    (hy : K.elem y = writeAt (K.elem (l.getD k d)) j vs) (hq : storeQ P ops i s = some ((adr a (k * K.size)).add j, vs))
    (hk : ∀ w', St B w0 l0 w' (K.row a c (l.set k y) :: R) → OpsAt M P ops (i + 1) (putS s (dstOf ops i) undef) w' Q) : OpsAt M P ops i s w Q := by
  rw [adr_add] at hq
  refine ops_storeRow hs hq ?_ h0 hv ?_
  · rw [K.length]
    have : (k + 1) * K.size ≤ l.length * K.size := Nat.mul_le_mul_right _ hkl
    rw [Nat.add_mul] at this
    omega
  · intro w' hs'
    refine hk w' ?_
    unfold Kind.row
    rw [List.length_set, ← K.set d j y hkl hj hy]
    exact hs'
theorem St.take {H : List Asn} (h : St B w0 l0 w (H ++ R)) : St B w0 l0 w H := by
  obtain ⟨a, b, l, s, u⟩ := h
  obtain ⟨l1, l2, s1, _, _, hm⟩ := Sep.append.1 s
  exact ⟨a, b, l1, s1, u.sub fun b hb => (hm b).2 (.inl hb)⟩
theorem St.oldMap {b : Nat} {l : List (Int × Int)} (hs : St B w0 [] w H) (h : MapAt b l w0) : MapAt b l w := by
  obtain ⟨es, clock, hb, he⟩ := h
  exact ⟨es, clock, hs.old hb, he⟩
theorem perm_last (A : Asn) (H : List Asn) : (A :: H).Perm (H ++ [A]) := (List.perm_append_singleton A H).symm
theorem bnot_true {b : Bool} (h : (!b) = true) : b = false := by simpa using h
theorem bnot_false {b : Bool} (h : (!b) = false) : b = true := by simpa using h
theorem eq_bool_of {v : Value} {x y : Bool} (h : v = .bool x) (e : x = y) : v = .bool y := by rw [h, e]
theorem ops_makeMap (hs : St B w0 l0 w R) (hq : valQ P ops i s w = some (.map (some w.heap.size), w.alloc (.map #[] 0))) (hk : ∀ b w', St B w0 l0 w' (mapA b [] :: R) → OpsAt M P ops (i + 1) (putS s (dstOf ops i) (.map (some b))) w' Q) : OpsAt M P ops i s w Q := by
  refine ops_new (fun b => .map (some b)) (.map #[] 0) hs hq fun b w' hs' => hk b w' ?_
  refine St.conv hs' ?_
  rintro l _ ⟨h1, h2, rfl⟩
  exact ⟨rfl, h1, #[], 0, h2, rfl⟩
theorem cells_sub {b off : Nat} {cs ds : List Value} {t : TypeId} {fr : Nat × Nat} (h : w.heap[b]? = some (.cells cs.toArray t fr)) (hd : (cs.drop off).take ds.length = ds) : ∀ j v, ds[j]? = some v → w.cell? ((⟨b, off, none⟩ : Addr).add j) = some v := by
  intro j v hv
  have hadd : (⟨b, off, none⟩ : Addr).add j = ⟨b, off + j, none⟩ := by unfold Addr.add; split <;> simp_all
  rw [hadd]
  refine cell_of_blk h ?_
  rw [← hd, List.getElem?_take] at hv
  split at hv
  · simpa [List.getElem?_drop] using hv
  · cases hv
theorem cells_blk {b : Nat} {cs : List Value} {t : TypeId} {fr : Nat × Nat} (h : w.heap[b]? = some (.cells cs.toArray t fr)) : CellsAt (some ⟨b, 0, none⟩) cs w := by
  refine cells_sub (off := 0) h ?_
  simp
theorem ret_ofN {fn : Func} {T : Value → World → Prop} {s : Fs} {w : World} (v : Value) (h : (resS fn s).run P w = .ok v w) (hR : T v w) : retQ P fn T .normal s w := leave_of h hR
theorem St.entAt {A : Asn} {F : World → Prop} (hs : St B w0 l0 w H) (j : Nat) (hj : H[j]? = some A) (hA : ∀ {B : Nat} {w : World} {l : List Nat}, A.P B w l → F w) : F w := by
  obtain ⟨lf, sep⟩ := hs.sep
  clear hs
  induction H generalizing j lf with
  | nil => simp at hj
  | cons A' H ih =>
    obtain ⟨l1, l2, h1, h2, _, _⟩ := sep
    cases j with
    | zero =>
      simp only [List.getElem?_cons_zero, Option.some.injEq] at hj
      subst hj
      exact hA h1
    | succ j => exact ih j (by simpa using hj) l2 h2
theorem spec_Q {f : FuncId} {fn : Func} {c : Code} {args : Array Value} {post : Value → List Asn → Prop} (hf : P.funcs[f]? = some fn) (hb : fn.body = some c)
    (h : St B w [] w [] → W P c (initF fn.ntmps args) w (retQ P fn fun v w' => ∃ H', post v H' ∧ St B w [] w' H')) : Spec P f args B w [] post := by
  intro l hB hs
  have hl : l = [] := List.eq_nil_iff_forall_not_mem.2 hs
  subst hl
  refine (calls_W hf hb (h (St.begin hB hs))).mono ?_
  rintro e w' ⟨v, rfl, H', hp, _, _, l', hs', hu⟩
  exact ⟨v, rfl, H', l', hp, hs', hu⟩
end
end Go.Proofs.YtmmclabkkigiaaaGreat

namespace Go.Proofs.YtmmclabkkigiaaaGreat
open Go Go.RowKit
theorem beq_yes {b c : Bool} {p q : Prop} (hp : b = true ↔ p) (hq : c = true ↔ q) (h : (b == c) = true) : p ↔ q := by
  have e : b = c := by simpa using h
  exact hp.symm.trans (by rw [e]; exact hq)
theorem beq_no {b c : Bool} {p q : Prop} (hp : b = true ↔ p) (hq : c = true ↔ q) (h : (b == c) = false) : ¬ (p ↔ q) := by
  intro hpq
  have e : b = c := by
    rw [Bool.eq_iff_iff]
    exact hp.trans (hpq.trans hq.symm)
  rw [e] at h
  simp at h
theorem tt_iff : (true = true) ↔ True := Iff.intro (fun _ => trivial) (fun _ => rfl)
def aggB (P : Program) (t : TypeId) : Option Bool :=
  match P.underlying t with
  | some (.struct _) => some true
  | some (.array _ _) => some true
  | some _ => some false
  | none => none
def partB (P : Program) (t : TypeId) (cs : Array Value) (off : Nat) : Option Value :=
  match aggB P t, P.info? t with
  | some true, some i => some (.agg (cs.extract off (off + i.size)))
  | some false, _ => cs[off]?
  | _, _ => none
theorem run_part {P : Program} {t : TypeId} {cs : Array Value} {off : Nat} {v : Value} (h : partB P t cs off = some v) (w : World) : (part t cs off).run P w = .ok v w := by
  unfold partB at h
  split at h
  · rename_i i ha hi
    cases h
    have hag : (isAgg t).run P w = .ok true w := by
      unfold aggB at ha
      unfold isAgg
      split at ha
      · rename_i hu; rw [Sem.run_bind, run_underlying hu]; rfl
      · rename_i hu; rw [Sem.run_bind, run_underlying hu]; rfl
      · simp at ha
      · cases ha
    unfold part
    rw [Sem.run_bind, hag]
    simp [sizeOf, typeInfo, hi]
  · rename_i ha
    have hag : (isAgg t).run P w = .ok false w := by
      unfold aggB at ha
      unfold isAgg
      split at ha
      · simp at ha
      · simp at ha
      · rename_i d h1 h2 hu
        rw [Sem.run_bind, run_underlying hu]
        cases d <;> first | rfl | exact (h1 _ rfl).elim | exact (h2 _ _ rfl).elim
      · cases ha
    unfold part
    rw [Sem.run_bind, hag]
    simp [h]
  · cases h
def eqFsB (P : Program) (rec : TypeId → Value → Value → Option Bool) (xs ys : Array Value) : List Field → Option Bool
  | [] => some true
  | f :: fs =>
    match f.name == "_" with
    | true => none
    | false => match partB P f.type xs f.offset, partB P f.type ys f.offset with
      | some a, some b => match rec f.type a b, eqFsB P rec xs ys fs with
        | some r, some s => some (r && s)
        | _, _ => none
      | _, _ => none
def eqAsB (P : Program) (rec : TypeId → Value → Value → Option Bool) (e : TypeId) (n : Nat) (xs ys : Array Value) : List Nat → Option Bool
  | [] => some true
  | i :: is =>
    match partB P e xs (i * n), partB P e ys (i * n) with
    | some a, some b => match rec e a b, eqAsB P rec e n xs ys is with
      | some r, some s => some (r && s)
      | _, _ => none
    | _, _ => none
def eqB (P : Program) : Nat → TypeId → Value → Value → Option Bool
  | 0, _, _, _ => none
  | d + 1, t, x, y =>
    match P.underlying t, x, y with
    | some .bool, .bool a, .bool b => some (a == b)
    | some (.int _), .int k a, .int k' b => match decide (k = k') with
      | true => some (a == b)
      | false => none
    | some .string, .string a, .string b => some (a == b)
    | some (.struct fields), .agg xs, .agg ys => match P.stoodInHeld t with
      | true => none
      | false => eqFsB P (eqB P d) xs ys fields.toList
    | some (.array len e), .agg xs, .agg ys => match P.info? e with
      | some i => eqAsB P (eqB P d) e i.size xs ys (List.range' 0 len)
      | none => none
    | _, _, _ => none
theorem run_eqFs {P : Program} {d : Nat} (ih : ∀ (t : TypeId) (x y : Value) (b : Bool), eqB P d t x y = some b → ∀ w, (Op.equalIn d t x y).run P w = .ok b w) (xs ys : Array Value) (w : World) :
    ∀ (fs : List Field) (b : Bool), eqFsB P (eqB P d) xs ys fs = some b → (Op.eqFields d xs ys fs).run P w = .ok b w
  | [], b, h => by cases h; simp [Op.eqFields]
  | f :: fs, b, h => by
    simp only [eqFsB] at h
    split at h
    · cases h
    · rename_i hn
      have hn' : f.name ≠ "_" := by simpa using hn
      split at h
      · rename_i a b' ha hb
        split at h
        · rename_i r s hr hs
          cases h
          simp only [Op.eqFields, if_pos hn', Sem.run_bind, run_part ha, run_part hb, ih _ _ _ _ hr, Result.andThen_ok]
          cases r
          · simp
          · simpa using run_eqFs ih xs ys w fs s hs
        · cases h
      · cases h
theorem run_eqB {P : Program} : ∀ (d : Nat) (t : TypeId) (x y : Value) (b : Bool), eqB P d t x y = some b → ∀ w, (Op.equalIn d t x y).run P w = .ok b w
  | 0, _, _, _, _, h, _ => by simp [eqB] at h
  | d + 1, t, x, y, b, h, w => by
    simp only [eqB] at h
    split at h
    · rename_i hu; cases h; simp [Op.equalIn, run_underlying hu]
    · rename_i hu
      split at h
      · rename_i hk; cases h; simp [Op.equalIn, run_underlying hu, of_decide_eq_true hk]
      · cases h
    · rename_i hu; cases h; simp [Op.equalIn, run_underlying hu]
    · rename_i fields xs ys hu
      split at h
      · cases h
      · rename_i hp
        have hf : P.fieldsOf t = fields := by simp [Program.fieldsOf, hu]
        rw [run_equalIn_struct (P := P) w d t xs ys (by rw [hf]; exact hu) hp, hf]
        exact run_eqFs (run_eqB d) xs ys w _ _ h
    · rename_i len e xs ys hu
      split at h
      · rename_i i hi
        have hsz : (sizeOf e).run P w = .ok i.size w := by simp [sizeOf, typeInfo, hi]
        simp only [Op.equalIn, Sem.run_bind, run_underlying hu, Result.andThen_ok, hsz]
        rw [show ([0:len] : Std.Legacy.Range) = ⟨0, len, 1, by decide⟩ from rfl]
        simp only [Std.Legacy.Range.forIn_eq_forIn_range', Std.Legacy.Range.size]
        have e1 : (len - 0 + 1 - 1) / 1 = len := by simp
        rw [e1]
        generalize List.range' 0 len = is at h ⊢
        clear e1
        induction is generalizing b with
        | nil => cases h; simp
        | cons j is ihs =>
          simp only [eqAsB] at h
          split at h
          · rename_i a b' ha hb
            split at h
            · rename_i r s hr hs
              cases h
              simp only [List.forIn_cons, Sem.run_bind, run_part ha, run_part hb, run_eqB d _ _ _ _ hr, Result.andThen_ok]
              cases r
              · simp
              · simpa using ihs s hs
            · cases h
          · cases h
      · cases h
    · cases h
section
variable {M : Bool} {P : Program} {ops : Array Oper} {i : Nat} {s : Fs} {w : World}
def eqQ (P : Program) (ops : Array Oper) (i : Nat) (s : Fs) : Option Bool :=
  match opQ ops i s with
  | some o => match o.op with
    | .binOp op t x y _ => match op, evS s x, evS s y, P.eqGuardType P.depth t with
      | .eql, .agg xs, .agg ys, false => eqB P 10000 t (.agg xs) (.agg ys)
      | .neq, .agg xs, .agg ys, false => (eqB P 10000 t (.agg xs) (.agg ys)).map (!·)
      | _, _, _, _ => none
    | _ => none
  | none => none
theorem runs_eq {b : Bool} (hq : eqQ P ops i s = some b) : RunsTo P ops i s w (.bool b) w := by
  unfold eqQ at hq
  split at hq
  · rename_i o ho
    split at hq
    · rename_i op t x y yt hop
      refine ⟨o, ho, ?_⟩
      split at hq
      · rename_i xs ys hx hy hg
        simp only [execOp, hop, hx, hy, Sem.run_bind, run_eqGuard_agg w _ t x y xs ys hg, Result.andThen_ok, run_eql_struct, run_eqB _ _ _ _ _ hq, Sem.run_pure]
      · rename_i xs ys hx hy hg
        simp only [Option.map_eq_some_iff] at hq
        obtain ⟨b', hb', rfl⟩ := hq
        simp only [execOp, hop, hx, hy, Sem.run_bind, run_eqGuard_agg w _ t x y xs ys hg, Result.andThen_ok, run_neq_struct, run_eqB _ _ _ _ _ hb', Sem.run_pure]
      · cases hq
    · cases hq
  · cases hq
end
end Go.Proofs.YtmmclabkkigiaaaGreat

namespace Go.Proofs.YtmmclabkkigiaaaGreat
open Go Go.RowKit
section
variable {B : Nat} {w0 w : World} {l0 : List Nat} {R : List Asn}
theorem St.f1 {a0 a1 : Asn} (h : St B w0 l0 w (a0 :: a1 :: R)) : St B w0 l0 w (a1 :: a0 :: R) := h.front 1 (by simp only [List.length_cons]; omega)
theorem St.f2 {a0 a1 a2 : Asn} (h : St B w0 l0 w (a0 :: a1 :: a2 :: R)) : St B w0 l0 w (a2 :: a0 :: a1 :: R) := h.front 2 (by simp only [List.length_cons]; omega)
theorem St.f3 {a0 a1 a2 a3 : Asn} (h : St B w0 l0 w (a0 :: a1 :: a2 :: a3 :: R)) : St B w0 l0 w (a3 :: a0 :: a1 :: a2 :: R) := h.front 3 (by simp only [List.length_cons]; omega)
theorem St.f4 {a0 a1 a2 a3 a4 : Asn} (h : St B w0 l0 w (a0 :: a1 :: a2 :: a3 :: a4 :: R)) : St B w0 l0 w (a4 :: a0 :: a1 :: a2 :: a3 :: R) := h.front 4 (by simp only [List.length_cons]; omega)
theorem St.f5 {a0 a1 a2 a3 a4 a5 : Asn} (h : St B w0 l0 w (a0 :: a1 :: a2 :: a3 :: a4 :: a5 :: R)) : St B w0 l0 w (a5 :: a0 :: a1 :: a2 :: a3 :: a4 :: R) := h.front 5 (by simp only [List.length_cons]; omega)
theorem St.f6 {a0 a1 a2 a3 a4 a5 a6 : Asn} (h : St B w0 l0 w (a0 :: a1 :: a2 :: a3 :: a4 :: a5 :: a6 :: R)) : St B w0 l0 w (a6 :: a0 :: a1 :: a2 :: a3 :: a4 :: a5 :: R) := h.front 6 (by simp only [List.length_cons]; omega)
theorem St.f7 {a0 a1 a2 a3 a4 a5 a6 a7 : Asn} (h : St B w0 l0 w (a0 :: a1 :: a2 :: a3 :: a4 :: a5 :: a6 :: a7 :: R)) : St B w0 l0 w (a7 :: a0 :: a1 :: a2 :: a3 :: a4 :: a5 :: a6 :: R) := h.front 7 (by simp only [List.length_cons]; omega)
theorem St.f8 {a0 a1 a2 a3 a4 a5 a6 a7 a8 : Asn} (h : St B w0 l0 w (a0 :: a1 :: a2 :: a3 :: a4 :: a5 :: a6 :: a7 :: a8 :: R)) : St B w0 l0 w (a8 :: a0 :: a1 :: a2 :: a3 :: a4 :: a5 :: a6 :: a7 :: R) := h.front 8 (by simp only [List.length_cons]; omega)
theorem St.f9 {a0 a1 a2 a3 a4 a5 a6 a7 a8 a9 : Asn} (h : St B w0 l0 w (a0 :: a1 :: a2 :: a3 :: a4 :: a5 :: a6 :: a7 :: a8 :: a9 :: R)) : St B w0 l0 w (a9 :: a0 :: a1 :: a2 :: a3 :: a4 :: a5 :: a6 :: a7 :: a8 :: R) := h.front 9 (by simp only [List.length_cons]; omega)
theorem St.tk0 (h : St B w0 l0 w R) : St B w0 l0 w [] := St.take (H := []) h
theorem St.tk1 {a0 : Asn} (h : St B w0 l0 w (a0 :: R)) : St B w0 l0 w [a0] := St.take (H := [a0]) h
theorem St.tk2 {a0 a1 : Asn} (h : St B w0 l0 w (a0 :: a1 :: R)) : St B w0 l0 w [a0, a1] := St.take (H := [a0, a1]) h
theorem St.tk3 {a0 a1 a2 : Asn} (h : St B w0 l0 w (a0 :: a1 :: a2 :: R)) : St B w0 l0 w [a0, a1, a2] := St.take (H := [a0, a1, a2]) h
theorem St.tk4 {a0 a1 a2 a3 : Asn} (h : St B w0 l0 w (a0 :: a1 :: a2 :: a3 :: R)) : St B w0 l0 w [a0, a1, a2, a3] := St.take (H := [a0, a1, a2, a3]) h
theorem St.tk5 {a0 a1 a2 a3 a4 : Asn} (h : St B w0 l0 w (a0 :: a1 :: a2 :: a3 :: a4 :: R)) : St B w0 l0 w [a0, a1, a2, a3, a4] := St.take (H := [a0, a1, a2, a3, a4]) h
theorem St.tk7 {a0 a1 a2 a3 a4 a5 a6 : Asn} (h : St B w0 l0 w (a0 :: a1 :: a2 :: a3 :: a4 :: a5 :: a6 :: R)) : St B w0 l0 w [a0, a1, a2, a3, a4, a5, a6] := St.take (H := [a0, a1, a2, a3, a4, a5, a6]) h
theorem St.tk8 {a0 a1 a2 a3 a4 a5 a6 a7 : Asn} (h : St B w0 l0 w (a0 :: a1 :: a2 :: a3 :: a4 :: a5 :: a6 :: a7 :: R)) : St B w0 l0 w [a0, a1, a2, a3, a4, a5, a6, a7] := St.take (H := [a0, a1, a2, a3, a4, a5, a6, a7]) h
theorem St.ap0 (h : St B w0 l0 w ([] ++ R)) : St B w0 l0 w R := h
theorem St.ap1 {a0 : Asn} (h : St B w0 l0 w ([a0] ++ R)) : St B w0 l0 w (a0 :: R) := h
theorem St.ap2 {a0 a1 : Asn} (h : St B w0 l0 w ([a0, a1] ++ R)) : St B w0 l0 w (a0 :: a1 :: R) := h
theorem St.ap3 {a0 a1 a2 : Asn} (h : St B w0 l0 w ([a0, a1, a2] ++ R)) : St B w0 l0 w (a0 :: a1 :: a2 :: R) := h
theorem St.ap4 {a0 a1 a2 a3 : Asn} (h : St B w0 l0 w ([a0, a1, a2, a3] ++ R)) : St B w0 l0 w (a0 :: a1 :: a2 :: a3 :: R) := h
end
section
variable {M : Bool} {P : Program} {ops : Array Oper} {i : Nat} {s : Fs} {w : World} {K : Fs → World → Prop} {B : Nat} {w0 : World} {l0 : List Nat} {R : List Asn} {f : FuncId} {args : Array Value} {post : Value → List Asn → Prop}
theorem ops_call0 (hs : St B w0 l0 w R) (hq : callQ P ops i s w = some (f, args, w)) (hf : Spec P f args B w [] post) (hk : ∀ v H' w', post v H' → St B w0 l0 w' (H' ++ R) → OpsAt M P ops (i + 1) (putS s (dstOf ops i) v) w' K) : OpsAt M P ops i s w K := ops_call (pre := []) hs hq hf hk
theorem ops_call1 {a0 : Asn} (hs : St B w0 l0 w (a0 :: R)) (hq : callQ P ops i s w = some (f, args, w)) (hf : Spec P f args B w [a0] post) (hk : ∀ v H' w', post v H' → St B w0 l0 w' (H' ++ R) → OpsAt M P ops (i + 1) (putS s (dstOf ops i) v) w' K) : OpsAt M P ops i s w K := ops_call (pre := [a0]) hs hq hf hk
theorem ops_call2 {a0 a1 : Asn} (hs : St B w0 l0 w (a0 :: a1 :: R)) (hq : callQ P ops i s w = some (f, args, w)) (hf : Spec P f args B w [a0, a1] post) (hk : ∀ v H' w', post v H' → St B w0 l0 w' (H' ++ R) → OpsAt M P ops (i + 1) (putS s (dstOf ops i) v) w' K) : OpsAt M P ops i s w K := ops_call (pre := [a0, a1]) hs hq hf hk
theorem ops_call4 {a0 a1 a2 a3 : Asn} (hs : St B w0 l0 w (a0 :: a1 :: a2 :: a3 :: R)) (hq : callQ P ops i s w = some (f, args, w)) (hf : Spec P f args B w [a0, a1, a2, a3] post) (hk : ∀ v H' w', post v H' → St B w0 l0 w' (H' ++ R) → OpsAt M P ops (i + 1) (putS s (dstOf ops i) v) w' K) : OpsAt M P ops i s w K := ops_call (pre := [a0, a1, a2, a3]) hs hq hf hk
end
end Go.Proofs.YtmmclabkkigiaaaGreat

namespace Go.Proofs.YtmmclabkkigiaaaGreat
open Go Go.RowKit
def vget (img : List Int) (l : List (Int × Int)) (at_ : Int) : Int :=
  if 0 ≤ at_ ∧ at_ < img.length then (vlook l at_).getD (img.getD at_.toNat 0) else 0
def vput (img : List Int) (l : List (Int × Int)) (at_ x : Int) : Int × List (Int × Int) :=
  if 0 ≤ at_ ∧ at_ < img.length then
    match vlook l at_ with
    | some _ => (0, vset l at_ x)
    | none => if 96 ≤ l.length then (5, l) else (0, vset l at_ x)
  else (8, l)
def vflat (img : List Int) (l : List (Int × Int)) : List Int := l.foldl (fun c p => c.set p.1.toNat p.2) img
def inside (n : Nat) (l : List (Int × Int)) : Prop := ∀ p ∈ l, 0 ≤ p.1 ∧ p.1 < n
structure VOk (img : List Int) (l : List (Int × Int)) : Prop where
  keys : Keys l
  inside : inside img.length l
  many : l.length ≤ 96
  size : img.length ≤ 17592186044415
def kU64 : Kind Int := ⟨34, 1, fun x => [.int .u64 x], by decide, fun _ => rfl, fun _ => rfl⟩
def kInt : Kind Int := ⟨3, 1, fun x => [.int .i64 x], by decide, fun _ => rfl, fun _ => rfl⟩
def kWr : Kind (Int × Int) := ⟨99, 2, fun p => [.int .i64 p.1, .int .u64 p.2], by decide, fun _ => rfl, fun _ => rfl⟩
abbrev ptr (b : Nat) : Value := .pointer (some ⟨b, 0, none⟩)
theorem rowA_capnil {e : TypeId} {size : Nat} {a : Option Addr} {k c : Nat} {n : Nat} {xs : List Value} {B : Nat} {w : World} {l : List Nat} (h : (rowA e size (.slice a k c) n xs).P B w l) : a = none → c = 0 := by
  obtain ⟨⟨_, hh⟩, _⟩ := h
  rcases hh with ⟨hv, _⟩ | ⟨g, cap, cur, hv, _⟩
  · cases hv; exact fun _ => rfl
  · cases hv; simp
structure VX where
  b : Nat
  ia : Option Addr
  ic : Nat
  mb : Nat
  oa : Option Addr
  oc : Nat
def viewH (img : List Int) (l : List (Int × Int)) (x : VX) : List Asn :=
  [blk x.b (.cells [.slice x.ia img.length x.ic, .map (some x.mb), .slice x.oa (l.map (·.1)).length x.oc].toArray 85 (0, 0)), kU64.row x.ia x.ic img, mapA x.mb l, kInt.row x.oa x.oc (l.map (·.1))]
def viewA (p : Value) (img : List Int) (l : List (Int × Int)) : Asn := exA (fun x : VX => p = ptr x.b ∧ VOk img l) (viewH img l)
def ViewAt (p : Value) (img : List Int) (l : List (Int × Int)) (w : World) : Prop :=
  ∃ x : VX, p = ptr x.b ∧ VOk img l ∧ w.heap[x.b]? = some (.cells [.slice x.ia img.length x.ic, .map (some x.mb), .slice x.oa (l.map (·.1)).length x.oc].toArray 85 (0, 0)) ∧ CellsAt x.ia (kU64.cells img) w ∧ MapAt x.mb l w ∧ CellsAt x.oa (kInt.cells (l.map (·.1))) w ∧ (x.ia = none → x.ic = 0)
theorem viewA_at {p : Value} {img : List Int} {l : List (Int × Int)} {B : Nat} {w : World} {lf : List Nat} (h : (viewA p img l).P B w lf) : ViewAt p img l w := by
  obtain ⟨x, ⟨rfl, hok⟩, l1, l2, ⟨_, h1, _⟩, ⟨m1, m2, h2, ⟨n1, n2, ⟨_, _, h3⟩, ⟨o1, o2, h4, _⟩, _⟩, _⟩, _⟩ := h
  exact ⟨x, rfl, hok, h1, rowA_cells h2, h3, rowA_cells h4, rowA_capnil h2⟩
structure RX where
  b : Nat
  ia : Option Addr
  ic : Nat
  la : Option Addr
  lc : Nat
  many : Bool
def refH (img : List Int) (l : List (Int × Int)) (x : RX) : List Asn :=
  [blk x.b (.cells [.slice x.ia img.length x.ic, .slice x.la l.length x.lc, .bool x.many].toArray 87 (0, 0)), kU64.row x.ia x.ic img, kWr.row x.la x.lc l]
def refA (p : Value) (img : List Int) (l : List (Int × Int)) : Asn := exA (fun x : RX => p = ptr x.b ∧ VOk img l) (refH img l)
def RefAt (p : Value) (img : List Int) (l : List (Int × Int)) (w : World) : Prop :=
  ∃ x : RX, p = ptr x.b ∧ VOk img l ∧ w.heap[x.b]? = some (.cells [.slice x.ia img.length x.ic, .slice x.la l.length x.lc, .bool x.many].toArray 87 (0, 0)) ∧ CellsAt x.ia (kU64.cells img) w ∧ CellsAt x.la (kWr.cells l) w ∧ (x.ia = none → x.ic = 0)
theorem refA_at {p : Value} {img : List Int} {l : List (Int × Int)} {B : Nat} {w : World} {lf : List Nat} (h : (refA p img l).P B w lf) : RefAt p img l w := by
  obtain ⟨x, ⟨rfl, hok⟩, l1, l2, ⟨_, h1, _⟩, ⟨m1, m2, h2, ⟨n1, n2, h3, _⟩, _⟩, _⟩ := h
  exact ⟨x, rfl, hok, h1, rowA_cells h2, rowA_cells h3, rowA_capnil h2⟩
theorem viewAt_old {B : Nat} {w0 w : World} {H : List Asn} {p : Value} {img : List Int} {l : List (Int × Int)} (hs : St B w0 [] w H) (h : ViewAt p img l w0) : ViewAt p img l w := by
  obtain ⟨x, h1, h2, h3, h4, h5, h6, h7⟩ := h
  exact ⟨x, h1, h2, hs.old h3, hs.oldCells h4, hs.oldMap h5, hs.oldCells h6, h7⟩
theorem refAt_old {B : Nat} {w0 w : World} {H : List Asn} {p : Value} {img : List Int} {l : List (Int × Int)} (hs : St B w0 [] w H) (h : RefAt p img l w0) : RefAt p img l w := by
  obtain ⟨x, h1, h2, h3, h4, h5, h6⟩ := h
  exact ⟨x, h1, h2, hs.old h3, hs.oldCells h4, hs.oldCells h5, h6⟩
theorem view_close {B : Nat} {w0 w : World} {l0 : List Nat} {R : List Asn} {b ic mb oc : Nat} {ia oa : Option Addr} {img : List Int} {l : List (Int × Int)} (hok : VOk img l)
    (hs : St B w0 l0 w (viewH img l ⟨b, ia, ic, mb, oa, oc⟩ ++ R)) : St B w0 l0 w (viewA (ptr b) img l :: R) := St.close (F := fun x : VX => ptr b = ptr x.b ∧ VOk img l) _ ⟨rfl, hok⟩ hs
theorem ref_close {B : Nat} {w0 w : World} {l0 : List Nat} {R : List Asn} {b ic lc : Nat} {ia la : Option Addr} {many : Bool} {img : List Int} {l : List (Int × Int)} (hok : VOk img l)
    (hs : St B w0 l0 w (refH img l ⟨b, ia, ic, la, lc, many⟩ ++ R)) : St B w0 l0 w (refA (ptr b) img l :: R) := St.close (F := fun x : RX => ptr b = ptr x.b ∧ VOk img l) _ ⟨rfl, hok⟩ hs
theorem vlook_none {l : List (Int × Int)} {k : Int} (h : vlook l k = none) : ∀ p ∈ l, ¬ p.1 = k := by
  intro p hp hk
  unfold vlook at h
  rw [Option.map_eq_none_iff, List.find?_eq_none] at h
  have := h p hp
  simp [hk] at this
theorem vset_keys_some {l : List (Int × Int)} {k v : Int} (h : (vlook l k).isSome = true) : (vset l k v).map (·.1) = l.map (·.1) := by
  unfold vset
  split
  · rw [List.map_map]
    refine List.map_congr_left fun p _ => ?_
    simp only [Function.comp]
    split
    · rename_i e; exact e.symm
    · rfl
  · rename_i hn; rw [hn] at h; cases h
theorem vset_none {l : List (Int × Int)} {k v : Int} (h : vlook l k = none) : vset l k v = l ++ [(k, v)] := by
  unfold vset; rw [h]
theorem vset_length_some {l : List (Int × Int)} {k v : Int} (h : (vlook l k).isSome = true) : (vset l k v).length = l.length := by
  have := congrArg List.length (vset_keys_some (v := v) h)
  simpa using this
theorem VOk.put {img : List Int} {l : List (Int × Int)} (h : VOk img l) {k v : Int} (hk : 0 ≤ k ∧ k < img.length) (hm : (vlook l k).isSome = true ∨ l.length < 96) : VOk img (vset l k v) := by
  cases hl : vlook l k with
  | some x =>
    have hs : (vlook l k).isSome = true := by rw [hl]; rfl
    refine ⟨by unfold Keys; rw [vset_keys_some hs]; exact h.keys, ?_, by rw [vset_length_some hs]; exact h.many, h.size⟩
    intro p hp
    unfold vset at hp
    rw [hl] at hp
    simp only [List.mem_map] at hp
    obtain ⟨q, hq, rfl⟩ := hp
    split
    · exact hk
    · exact h.inside q hq
  | none =>
    rw [hl] at hm
    simp only [Option.isSome_none, Bool.false_eq_true, false_or] at hm
    rw [vset_none hl]
    refine ⟨?_, ?_, by simp; omega, h.size⟩
    · unfold Keys
      rw [List.map_append, List.nodup_append]
      refine ⟨h.keys, by simp, ?_⟩
      intro a ha b hb
      simp only [List.mem_map] at ha
      obtain ⟨q, hq, rfl⟩ := ha
      simp only [List.map_cons, List.map_nil, List.mem_singleton] at hb
      subst hb
      exact vlook_none hl q hq
    · intro p hp
      rcases List.mem_append.1 hp with hp | hp
      · exact h.inside p hp
      · simp only [List.mem_singleton] at hp; subst hp; exact hk
theorem vlook_at : ∀ {l : List (Int × Int)}, Keys l → ∀ {k : Nat}, k < l.length → vlook l (l.getD k (0, 0)).1 = some (l.getD k (0, 0)).2
  | p :: l, hn, 0, _ => by simp [vlook]
  | p :: l, hn, k + 1, h => by
    have hn' : Keys l := by simp only [Keys, List.map_cons, List.nodup_cons] at hn; exact hn.2
    have hk : k < l.length := by simpa using h
    have hne : ¬ p.1 = (l.getD k (0, 0)).1 := by
      simp only [Keys, List.map_cons, List.nodup_cons, List.mem_map, not_exists, not_and] at hn
      intro e
      refine hn.1 (l.getD k (0, 0)) ?_ e.symm
      simp [hk]
    have e : (p :: l).getD (k + 1) (0, 0) = l.getD k (0, 0) := by simp
    rw [e]
    have e2 : vlook (p :: l) (l.getD k (0, 0)).1 = vlook l (l.getD k (0, 0)).1 := by
      have : (p.1 == (l.getD k (0, 0)).1) = false := by simpa using hne
      simp only [vlook, List.find?_cons, this]
    rw [e2]
    exact vlook_at hn' hk
theorem cells_none {α : Type} (K : Kind α) {l : List α} {w : World} (h : CellsAt none (K.cells l) w) : l = [] := by
  have h' : K.cells l = [] := h
  have h1 := K.length l
  rw [h'] at h1
  rcases Nat.eq_zero_or_pos l.length with h2 | h2
  · exact List.eq_nil_of_length_eq_zero h2
  · have := Nat.mul_pos h2 K.pos
    simp at h1
    omega
theorem VOk.nil {img : List Int} (h : img.length ≤ 17592186044415) : VOk img [] := ⟨by simp [Keys], by simp [Go.Proofs.YtmmclabkkigiaaaGreat.inside], by simp, h⟩
theorem take_snoc {α : Type} {l : List α} (d : α) {k : Nat} (hk : k < l.length) : l.take (k + 1) = l.take k ++ [l.getD k d] := by
  rw [List.take_succ_eq_append_getElem hk]
  simp [hk]
theorem vflat_length (img : List Int) : ∀ l : List (Int × Int), (vflat img l).length = img.length := by
  intro l
  unfold vflat
  induction l generalizing img with
  | nil => rfl
  | cons p l ih => simp [ih]
theorem vflat_step (img : List Int) {l : List (Int × Int)} {k : Nat} (hk : k < l.length) :
    (vflat img (l.take k)).set (l.getD k (0, 0)).1.toNat (l.getD k (0, 0)).2 = vflat img (l.take (k + 1)) := by
  rw [take_snoc (0, 0) hk]
  simp [vflat]
def bad (n : Nat) (p : Int × Int) : Bool := decide (p.1 < 0 ∨ p.1 ≥ n)
theorem eq_of_getD {α : Type} (d : α) {xs ys : List α} (hl : xs.length = ys.length) (h : ∀ j, j < xs.length → xs.getD j d = ys.getD j d) : xs = ys := by
  refine List.ext_getElem hl fun j h1 h2 => ?_
  have := h j h1
  simpa [h1, h2] using this
def FindR (l : List (Int × Int)) (k r : Int) : Prop :=
  (r = -1 ∧ vlook l k = none) ∨ ∃ j : Nat, r = (j : Int) ∧ j < l.length ∧ (l.getD j (0, 0)).1 = k
theorem FindR.lt {l : List (Int × Int)} {k r : Int} (h : FindR l k r) (h0 : 0 ≤ r) : r.toNat < l.length ∧ (l.getD r.toNat (0, 0)).1 = k := by
  rcases h with ⟨h1, _⟩ | ⟨j, rfl, hj, hk⟩
  · omega
  · exact ⟨by simpa using hj, by simpa using hk⟩
theorem rget_none {img : List Int} {l : List (Int × Int)} {k r : Int} (h : FindR l k r) (h0 : ¬ 0 ≤ r) (hin : 0 ≤ k ∧ k < img.length) : img.getD k.toNat 0 = vget img l k := by
  simp only [vget]
  rw [if_pos hin]
  rcases h with ⟨_, h1⟩ | ⟨j, rfl, _⟩
  · rw [h1]; rfl
  · omega
theorem rget_some {img : List Int} {l : List (Int × Int)} (hn : Keys l) {k r : Int} (h : FindR l k r) (h0 : 0 ≤ r) (hin : 0 ≤ k ∧ k < img.length) : (l.getD r.toNat (0, 0)).2 = vget img l k := by
  obtain ⟨h1, h2⟩ := h.lt h0
  simp only [vget]
  rw [if_pos hin]
  have h3 := vlook_at hn h1
  rw [h2] at h3
  rw [h3]
  rfl
theorem FindR.isSome {l : List (Int × Int)} (hn : Keys l) {k r : Int} (h : FindR l k r) (h0 : 0 ≤ r) : (vlook l k).isSome = true := by
  obtain ⟨h1, h2⟩ := h.lt h0
  have h3 := vlook_at hn h1
  rw [h2] at h3
  rw [h3]
  rfl
theorem FindR.none {l : List (Int × Int)} {k r : Int} (h : FindR l k r) (h0 : ¬ 0 ≤ r) : vlook l k = Option.none := by
  rcases h with ⟨_, h1⟩ | ⟨j, rfl, _⟩
  · exact h1
  · omega
theorem rput_many {img : List Int} {l : List (Int × Int)} {k r x : Int} (h : FindR l k r) (h0 : ¬ 0 ≤ r) (hin : 0 ≤ k ∧ k < img.length) (hm : 96 ≤ l.length) : vput img l k x = (5, l) := by
  simp only [vput]
  rw [if_pos hin, h.none h0]
  exact if_pos hm
theorem rput_new {img : List Int} {l : List (Int × Int)} {k r x : Int} (h : FindR l k r) (h0 : ¬ 0 ≤ r) (hin : 0 ≤ k ∧ k < img.length) (hm : ¬ 96 ≤ l.length) : vput img l k x = (0, vset l k x) := by
  simp only [vput]
  rw [if_pos hin, h.none h0]
  exact if_neg hm
theorem rput_some {img : List Int} {l : List (Int × Int)} (hn : Keys l) {k r x : Int} (h : FindR l k r) (h0 : 0 ≤ r) (hin : 0 ≤ k ∧ k < img.length) : vput img l k x = (0, vset l k x) := by
  simp only [vput]
  rw [if_pos hin]
  have := h.isSome hn h0
  cases hq : vlook l k with
  | none => rw [hq] at this; cases this
  | some v => rfl
theorem rput_app {l : List (Int × Int)} {k r x : Int} (h : FindR l k r) (h0 : ¬ 0 ≤ r) : l ++ [(k, x)] = vset l k x := (vset_none (h.none h0)).symm
theorem find_none {l : List (Int × Int)} {k : Int} (h : ∀ j, j < l.length → ¬ (l.getD j (0, 0)).1 = k) : vlook l k = none := by
  unfold vlook
  rw [Option.map_eq_none_iff, List.find?_eq_none]
  intro p hp
  obtain ⟨j, hj, rfl⟩ := List.getElem_of_mem hp
  have := h j hj
  simp [hj] at this
  simpa using this
theorem vset_set {l : List (Int × Int)} (hn : Keys l) {k v : Int} {j : Nat} (hj : j < l.length) (hk : (l.getD j (0, 0)).1 = k) : l.set j (k, v) = vset l k v := by
  have h1 : vlook l k = some (l.getD j (0, 0)).2 := by rw [← hk]; exact vlook_at hn hj
  have h2 : vset l k v = l.map fun p => if p.1 = k then (k, v) else p := by unfold vset; rw [h1]
  rw [h2]
  clear h1 h2
  induction l generalizing j with
  | nil => simp at hj
  | cons p l ih =>
    have hn' : Keys l := by simp only [Keys, List.map_cons, List.nodup_cons] at hn; exact hn.2
    have hnot : ∀ q ∈ l, ¬ q.1 = p.1 := by
      simp only [Keys, List.map_cons, List.nodup_cons, List.mem_map, not_exists, not_and] at hn
      exact fun q hq => hn.1 q hq
    cases j with
    | zero =>
      simp only [List.getD_cons_zero] at hk
      simp only [List.set_cons_zero, List.map_cons, hk, if_true]
      congr 1
      refine ((List.map_congr_left fun q hq => ?_).trans (List.map_id l)).symm
      rw [if_neg (by rw [← hk]; exact hnot q hq)]
      rfl
    | succ j =>
      have hj' : j < l.length := by simpa using hj
      simp only [List.getD_cons_succ] at hk
      have hp : ¬ p.1 = k := by
        intro e
        refine hnot (l.getD j (0, 0)) (by simp [hj']) ?_
        rw [hk, e]
      simp only [List.set_cons_succ, List.map_cons, if_neg hp]
      rw [ih hn' hj' hk]
theorem rput_set {l : List (Int × Int)} (hn : Keys l) {k r x : Int} (h : FindR l k r) (h0 : 0 ≤ r) : l.set r.toNat ((l.getD r.toNat (0, 0)).1, x) = vset l k x := by
  obtain ⟨h1, h2⟩ := h.lt h0
  rw [h2]
  exact vset_set hn h1 h2
end Go.Proofs.YtmmclabkkigiaaaGreat

namespace Go.Proofs.YtmmclabkkigiaaaGreat
open Go Go.RowKit
section
variable {M : Bool} {P : Program} {ops : Array Oper} {i : Nat} {s : Fs} {w : World}
def divQ (ops : Array Oper) (i : Nat) (s : Fs) : Option (Bool × IntKind × Int × Int) :=
  match opQ ops i s with
  | some o => match o.op with
    | .binOp op _ x y _ => match op, evS s x, evS s y with
      | .rem, .int k a, .int k' b => if k = k' then some (true, k, a, b) else none
      | .quo, .int k a, .int k' b => if k = k' then some (false, k, a, b) else none
      | _, _, _ => none
    | _ => none
  | none => none
theorem run_guard_int (t : TypeId) (x y : Operand) (op : BinOp) (k k' : IntKind) (a b : Int) (w : World) : (eqGuard op t x y (.int k a) (.int k' b)).run P w = .ok () w := by
  unfold eqGuard
  cases op <;> rfl
theorem runs_rem {k : IntKind} {a b r : Int} (hq : divQ ops i s = some (true, k, a, b)) (hb : ¬ b = 0) (hr : a.tmod b = r) : RunsTo P ops i s w (.int k r) w := by
  unfold divQ at hq
  split at hq
  · rename_i o ho
    split at hq
    · rename_i op t x y yt hop
      refine ⟨o, ho, ?_⟩
      split at hq
      · rename_i k1 a1 k2 b1 hx hy
        split at hq
        · rename_i hk
          cases hq
          subst hk hr
          simp only [execOp, hop, hx, hy, Sem.run_bind, run_guard_int, Result.andThen_ok, Sem.run_pure, binOp, ne_eq, not_true_eq_false, if_false, Op.intDiv, if_neg hb]
        · cases hq
      · split at hq <;> cases hq
      · cases hq
    · cases hq
  · cases hq
theorem runs_quo {k : IntKind} {a b r : Int} (hq : divQ ops i s = some (false, k, a, b)) (hb : ¬ b = 0) (hr : k.wrap (a.tdiv b) = r) : RunsTo P ops i s w (.int k r) w := by
  unfold divQ at hq
  split at hq
  · rename_i o ho
    split at hq
    · rename_i op t x y yt hop
      refine ⟨o, ho, ?_⟩
      split at hq
      · split at hq <;> cases hq
      · rename_i k1 a1 k2 b1 hx hy
        split at hq
        · rename_i hk
          cases hq
          subst hk hr
          simp only [execOp, hop, hx, hy, Sem.run_bind, run_guard_int, Result.andThen_ok, Sem.run_pure, binOp, ne_eq, not_true_eq_false, if_false, Op.intDiv, if_neg hb]
        · cases hq
      · cases hq
    · cases hq
  · cases hq
theorem rem_nat {x y : Int} (hx : 0 ≤ x) (hy : 0 < y) : ∃ r : Nat, x.tmod y = (r : Int) ∧ (r : Int) < y ∧ (r : Int) = x % y :=
  ⟨(x.tmod y).toNat, by have := Int.tmod_nonneg y hx; omega, by have := Int.tmod_nonneg y hx; have := Int.tmod_lt_of_pos x hy; omega, by have := Int.tmod_nonneg y hx; rw [Int.toNat_of_nonneg this, Int.tmod_eq_emod_of_nonneg hx]⟩
theorem addr_zero (ad : Addr) : ad.add 0 = ad := by
  unfold Addr.add; simp
theorem runs_prefix {a : Option Addr} {n c size : Nat} {z : Int} (m : Nat) (hz : z = (m : Int)) (h : m ≤ n) (h2 : n ≤ c) (hq : sliceQ P ops i s = some ((a, n, c), none, some z, size)) : RunsTo P ops i s w (.slice a m c) w := by
  subst hz
  have h1 := runs_slice (P := P) (ops := ops) (i := i) (s := s) (w := w) (a := a) (n := n) (c := c) (size := size) 0 m (.inr ⟨rfl, rfl⟩) (.inl rfl) (Nat.zero_le _) (by omega) hq
  have e : (if c = 0 then a else a.map (·.add (0 * size))) = a := by
    split
    · rfl
    · cases a with
      | none => rfl
      | some ad => simp [Nat.zero_mul, addr_zero]
  rw [e] at h1
  exact h1
end
section
variable {α : Type} (K : Kind α) {B : Nat} {w0 w : World} {l0 : List Nat} {H : List Asn}
theorem St.kcap (hs : St B w0 l0 w H) (j : Nat) {a : Option Addr} {c : Nat} {l : List α} (hj : H[j]? = some (K.row a c l)) : l.length ≤ c := (hs.rowLen j hj).2.2.2.1
theorem cells_take {a : Option Addr} {l : List α} (m : Nat) (h : CellsAt a (K.cells l) w) : CellsAt a (K.cells (l.take m)) w := by
  cases a with
  | none =>
    have := cells_none K h
    subst this
    simpa using h
  | some ad =>
    intro j v hv
    refine h j v ?_
    have e : K.cells l = K.cells (l.take m) ++ K.cells (l.drop m) := by rw [← K.cells_append, List.take_append_drop]
    rw [e, List.getElem?_append_left (List.getElem?_eq_some_iff.1 hv).1]
    exact hv
end
end Go.Proofs.YtmmclabkkigiaaaGreat

namespace Go.Proofs.YtmmclabkkigiaaaGreat
open Go Go.RowKit
section
variable {P : Program} {c : Code} {s : Fs} {w : World} {Q : Exit → Fs → World → Prop}
def aggSize (P : Program) (t : TypeId) : Option Nat :=
  match P.underlying t, P.info? t with
  | some (.struct _), some f => some f.size
  | some (.array _ _), some f => some f.size
  | _, _ => none
theorem run_loadVar_agg {t : TypeId} {ad : Addr} {cs : List Value} (hz : aggSize P t = some cs.length) (hc : ∀ j v, cs[j]? = some v → w.cell? (ad.add j) = some v) : (loadVar t ad).run P w = .ok (.agg cs.toArray) w := by
  unfold aggSize at hz
  have key : ∀ (d : TypeDesc) (f : TypeInfo), P.underlying t = some d → P.info? t = some f → (match d with | .struct _ | .array _ _ => true | _ => false) = true → some f.size = some cs.length → (loadVar t ad).run P w = .ok (.agg cs.toArray) w := by
    intro d f hu hi hd he
    simp only [Option.some.injEq] at he
    have hag : (isAgg t).run P w = .ok true w := by
      unfold isAgg
      rw [Sem.run_bind, run_underlying hu]
      simp only [Result.andThen_ok]
      cases d <;> first | rfl | simp at hd
    have hsz : (sizeOf t).run P w = .ok f.size w := by
      simp [sizeOf, typeInfo, hi]
    have hl := run_loadCells_list (P := P) w ad cs hc
    rw [← he] at hl
    simp only [loadVar, Sem.run_bind, Result.andThen_ok, hag, hsz, if_true, hl, Sem.run_pure]
  split at hz
  · rename_i hu hi; exact key _ _ hu hi rfl hz
  · rename_i hu hi; exact key _ _ hu hi rfl hz
  · cases hz
theorem results_cell {fn : Func} {a : Nat} {t : TypeId} {ad : Addr} {cs : List Value} (hr : fn.results = #[.cell a t]) (ha0 : (s.d, s.f a) = ([], .pointer (some ad))) (hz : aggSize P t = some cs.length)
    (hc : ∀ j v, cs[j]? = some v → w.cell? (ad.add j) = some v) : (resS fn s).run P w = .ok (.agg cs.toArray) w := by
  have hl := run_loadVar_agg (P := P) (w := w) hz hc
  have ha' : s.f a = .pointer (some ad) := congrArg Prod.snd ha0
  have hd : s.d = [] := congrArg Prod.fst ha0
  unfold resS
  rw [hd]
  simp only
  unfold resD
  rw [hr]
  simp [resF, ha', asAddr, hl]
theorem results_cell2 {fn : Func} {a u : Nat} {t : TypeId} {ad : Addr} {cs : List Value} {v : Value} (hr : fn.results = #[.cell a t, .tmp u]) (ha0 : (s.d, s.f a) = ([], .pointer (some ad))) (hv : s.f u = v) (hz : aggSize P t = some cs.length)
    (hc : ∀ j v, cs[j]? = some v → w.cell? (ad.add j) = some v) : (resS fn s).run P w = .ok (.tuple #[.agg cs.toArray, v]) w := by
  have hl := run_loadVar_agg (P := P) (w := w) hz hc
  subst hv
  have ha' : s.f a = .pointer (some ad) := congrArg Prod.snd ha0
  have hd : s.d = [] := congrArg Prod.fst ha0
  unfold resS
  rw [hd]
  simp only
  unfold resD
  rw [hr]
  simp [resF, ha', asAddr, hl]
end
end Go.Proofs.YtmmclabkkigiaaaGreat

namespace Go.Proofs.YtmmclabkkigiaaaGreat
open Go Go.RowKit
def YSpec (P : Program) (l : Nat) (args : Array Value) (B : Nat) (w : World) (pre : List Asn) (post : Value → List Asn → Prop) : Prop :=
  ∀ lf, B ≤ w.heap.size → Sep B w pre lf → ∃ f tmps assign body, (Instr.yield l args).run P w = .ok (.round l f tmps assign body) w ∧
    RoundIn (fen none) 0 P l f tmps assign body w (fun e w' => ∃ v, e = .returned v ∧ ∃ H' l', post v H' ∧ Sep B w' H' l' ∧ Upd w w' lf l')
section
variable {P : Program} {ops : Array Oper} {i : Nat} {s : Fs} {w : World} {K : Fs → World → Prop}
def yieldQ (ops : Array Oper) (i : Nat) (s : Fs) : Option (Nat × Array Value) :=
  match opQ ops i s with
  | some o => match o.op with
    | .call { callee := .value x, args := ags, .. } => match evS s x with
      | .func (.yield l) ⟨[]⟩ ⟨[]⟩ => some (l, ags.map (evS s))
      | _ => none
    | _ => none
  | none => none
theorem ops_yield {B : Nat} {w0 : World} {l0 : List Nat} {pre R : List Asn} {l : Nat} {args : Array Value} {post : Value → List Asn → Prop} (hs : St B w0 l0 w (pre ++ R)) (hr : s.r = none)
    (hq : yieldQ ops i s = some (l, args)) (hy : YSpec P l args B w pre post)
    (hk : ∀ v H' w', post v H' → St B w0 l0 w' (H' ++ R) → OpsAt true P ops (i + 1) (putS s (dstOf ops i) v) w' K) : OpsAt true P ops i s w K := by
  unfold yieldQ at hq
  split at hq
  · rename_i o ho
    obtain ⟨h1, h2, h3, h4⟩ := opQ_some' ho
    rw [h3] at hk
    split at hq
    · rename_i x ags tys hop
      split at hq
      · rename_i l' hx
        simp only [Option.some.injEq, Prod.mk.injEq] at hq
        obtain ⟨rfl, rfl⟩ := hq
        have hB := hs.size
        obtain ⟨l1, s1, key⟩ := hs.part
        obtain ⟨f, tmps, assign, body, hyr, hrd⟩ := hy l1 hB s1
        refine ⟨fun x' hx' T hT => ?_⟩
        rw [range_cons h1]
        simp only [wpM, wpOpsIn, h1, yield_rel hx', h2, if_true]
        refine ⟨fun _ _ => trivial, ?_⟩
        rw [Oper.semAt_eq _ _ _ (by intro c hc; rw [hop] at hc; cases hc), ev_rel hx']
        have hrun : (execOp (evS s) o).run P w = .ok (.round l' f tmps assign body) w := by
          simp [execOp, hop, resolve, hx, invoke, go_sem]
          exact hyr
        rw [hrun, hr]
        refine ⟨fen_depth, RoundIn.mono hrd ?_⟩
        rintro e w' ⟨v, rfl, H', l2, hp, hsep, hu⟩
        have h5 := (hk v H' w' hp (key w' H' l2 hsep hu)).out _ (rel_put hx' h4 v) T (fun y w' ⟨s', a, b, c⟩ => hT y w' ⟨s', a, b.trans (put_r _ _ _), c⟩)
        rw [put_r, hr] at h5
        exact h5
      · cases hq
    · cases hq
  · cases hq
end
def roundQ (B : Nat) (w : World) (lf : List Nat) (l : Nat) (rc : Loop) (post : Value → List Asn → Prop) : Exit → Fs → World → Prop
  | .normal, _, w3 => ∃ Y', St B w lf w3 (blk l (.loop { rc with state := .busy }) :: Y') ∧ post (.bool true) (blk l (.loop { rc with state := .ready, pending := none }) :: Y')
  | .ret, _, w3 => ∃ Y', St B w lf w3 (blk l (.loop { rc with state := .busy }) :: Y') ∧ post (.bool false) (blk l (.loop { rc with state := .done, pending := some .ret }) :: Y')
  | .exit id, _, w3 => ∃ Y', St B w lf w3 (blk l (.loop { rc with state := .busy }) :: Y') ∧ post (.bool false) (blk l (.loop { rc with state := .done, pending := some (.exit id) }) :: Y')
  | _, _, _ => False
theorem putObj_blk {B : Nat} {w0 w : World} {l0 : List Nat} {R : List Asn} {l : Nat} {o : Obj} (o' : Obj) (hs : St B w0 l0 w (blk l o :: R)) : St B w0 l0 (w.putObj l o') (blk l o' :: R) := by
  refine St.step1 (post := [blk l o']) hs ?_
  rintro lf ⟨h1, h2, rfl⟩
  have hlt := (Array.getElem?_eq_some_iff.1 h2).1
  refine ⟨[l], ⟨[l], [], ⟨h1, World.putObj_heap_same hlt, rfl⟩, fun b => by simp, fun b _ => by simp, by simp⟩, rfl, rfl, rfl, by simp, ?_, fun b h => .inl h⟩
  intro b _ hb
  simp only [List.mem_singleton] at hb
  exact World.putObj_heap_other hb
theorem St.head {B : Nat} {w0 w : World} {l0 : List Nat} {R : List Asn} {l : Nat} {o : Obj} (hs : St B w0 l0 w (blk l o :: R)) : w.heap[l]? = some o := hs.heapAt 0 rfl
theorem yspec_round {P : Program} {B : Nat} {w : World} {l : Nat} {rc : Loop} {Y : List Asn} {args : Array Value} {post : Value → List Asn → Prop} (hst : rc.state = .ready) (hsz : args.size = rc.params.size)
    (s0 : Fs) (hs0 : Rel ⟨(rc.params.zip args).foldl (fun tmps (t, a) => tmps.setIfInBounds t a) rc.tmps, []⟩ s0) (hr0 : s0.r = some l)
    (walk : ∀ lf, St B w lf w (blk l (.loop rc) :: Y) → ∀ K : Fs → World → Prop, (∀ s' w1, St B w lf w1 (blk l (.loop rc) :: Y) →
      (∀ w2, St B w lf w2 (blk l (.loop { rc with state := .busy }) :: Y) → W P rc.body s' w2 (roundQ B w lf l rc post)) → K s' w1) → W P rc.assign s0 w (seqQ K (fun _ _ _ => False))) :
    YSpec P l args B w (blk l (.loop rc) :: Y) post := by
  intro lf hB hsep
  have hst0 : St B w lf w (blk l (.loop rc) :: Y) := St.begin hB hsep
  refine ⟨rc.fn, _, rc.assign, rc.body, run_yield hst0.head hsz, roundIn_of_wpIn trivial ?_⟩
  have hw := (walk lf hst0 (fun s' w1 => St B w lf w1 (blk l (.loop rc) :: Y) ∧ ∀ w2, St B w lf w2 (blk l (.loop { rc with state := .busy }) :: Y) → W P rc.body s' w2 (roundQ B w lf l rc post)) (fun s' w1 h1 h2 => ⟨h1, h2⟩)).out _ hs0
  rw [hr0] at hw
  refine wpIn_mono hw ?_
  rintro e x w1 ⟨s', hx, hsr, hq⟩
  cases e with
  | normal =>
    obtain ⟨h1, h2⟩ := (show St B w lf w1 (blk l (.loop rc) :: Y) ∧ _ from hq)
    refine ⟨_, run_beginRound h1.head hst, ?_⟩
    have h3 := (h2 _ (putObj_blk (.loop { rc with state := .busy }) h1)).out x hx
    rw [hsr] at h3
    refine wpIn_mono h3 ?_
    have fin : ∀ (jump : Option Code) (w3 : World) (Y' : List Asn) (v : Value), v = .bool jump.isNone → St B w lf w3 (blk l (.loop { rc with state := .busy }) :: Y') →
        post v (blk l (.loop { rc with state := if jump.isNone then .ready else .done, pending := jump }) :: Y') →
        ∃ v w', (Instr.endRound l jump).run P w3 = .ok v w' ∧ ∃ v', Ending.returned v = .returned v' ∧ ∃ H' l', post v' H' ∧ Sep B w' H' l' ∧ Upd w w' lf l' := by
      intro jump w3 Y' v hv hs3 hp
      have hs4 := putObj_blk (.loop { rc with state := if jump.isNone then .ready else .done, pending := jump }) hs3
      obtain ⟨_, _, l', hsep', hu⟩ := hs4
      subst hv
      exact ⟨_, _, run_endRound jump hs3.head, _, rfl, _, l', hp, hsep', hu⟩
    rintro e y w3 ⟨s3, hy, hs3, hq3⟩
    cases e with
    | normal => obtain ⟨Y', ha, hb⟩ := hq3; exact fin none w3 Y' _ rfl ha hb
    | ret => obtain ⟨Y', ha, hb⟩ := hq3; exact fin (some .ret) w3 Y' _ rfl ha hb
    | exit id => obtain ⟨Y', ha, hb⟩ := hq3; exact fin (some (.exit id)) w3 Y' _ rfl ha hb
    | _ => exact hq3.elim
  | _ => exact hq.elim
def Fs.mark (s : Fs) (D : Nat) : Fs := ⟨s.n, s.f, s.r, { target := .collected D, args := #[] } :: s.d⟩
theorem W.rangeFunc {P : Program} {s : Fs} {w : World} {Q : Exit → Fs → World → Prop} {B : Nat} {w0 : World} {l0 : List Nat} {g : Operand} {ps : Array Tmp} {assign body : Code} {gf : Nat} {lb : Array Value} {pre R : List Asn}
    {post : Loop → Nat → Value → List Asn → Prop}
    (hs : St B w0 l0 w (pre ++ R)) (hr : s.r = none) (hg : evS s g = .func (.func gf) #[] lb) (hf : ∀ args w, (callFunc gf args).run P w = .ok (.enter gf args) w)
    (hc : ∀ (rc : Loop) (l : Nat) (w1 : World), rc.tmps.size = s.n → (∀ i, rc.tmps.getD i undef = s.f i) → rc.state = .ready → rc.pending = none → rc.params = ps → rc.assign = assign → rc.body = body →
      St B w0 l0 w1 (blk l (.loop rc) :: blk rc.defers (.deferred (some [])) :: (pre ++ R)) → Spec P gf (#[.func (.yield l) #[] #[]] ++ lb) B w1 (blk l (.loop rc) :: pre) (post rc l))
    (hk : ∀ (rc : Loop) (l : Nat) (v : Value) (H' : List Asn), post rc l v H' → ∃ rc' H'', rc'.state ≠ .busy ∧ rc'.defers = rc.defers ∧ H' = blk l (.loop rc') :: H'' ∧
      ∀ w3, St B w0 l0 w3 (blk rc.defers (.deferred (some [])) :: (H'' ++ R)) → match rc'.pending with
        | none => Q .normal (s.mark rc.defers) w3
        | some c => W P c (s.mark rc.defers) w3 Q) : W P (.rangeFunc g ps assign body) s w Q := by
  refine ⟨fun x hx => ?_⟩
  rw [hr]
  refine wpIn_rangeFunc ?_
  intro fn _
  obtain ⟨rc, hrc⟩ : ∃ rc : Loop, rc = { state := .ready, pending := none, fn, tmps := x.tmps, params := ps, assign, body, defers := w.heap.size } := ⟨_, rfl⟩
  have hB := hs.size
  have hs1 : St B w0 l0 (w.alloc (.deferred (some []))) (blk w.heap.size (.deferred (some [])) :: (pre ++ R)) := by
    refine St.step0 (post := [blk w.heap.size (.deferred (some []))]) hs ⟨[w.heap.size], ⟨[w.heap.size], [], ⟨hB, heap_alloc_new w _, rfl⟩, fun c => by simp, fun c _ => by simp, by simp⟩, rfl, rfl, rfl, by simp, fun c hc _ => Below.heap_alloc _ _ _ hc, fun c hc => .inr (by simp only [List.mem_singleton] at hc; omega)⟩
  have hB1 := hs1.size
  have hs2 : St B w0 l0 ((w.alloc (.deferred (some []))).alloc (.loop rc)) (blk (w.heap.size + 1) (.loop rc) :: blk w.heap.size (.deferred (some [])) :: (pre ++ R)) := by
    have e : (w.alloc (.deferred (some []))).heap.size = w.heap.size + 1 := by simp
    have hn := heap_alloc_new (w.alloc (.deferred (some []))) (.loop rc)
    rw [e] at hn hB1
    refine St.step0 (post := [blk (w.heap.size + 1) (.loop rc)]) hs1 ⟨[w.heap.size + 1], ⟨[w.heap.size + 1], [], ⟨hB1, hn, rfl⟩, fun c => by simp, fun c _ => by simp, by simp⟩, rfl, rfl, rfl, by simp, fun c hc _ => Below.heap_alloc _ _ _ hc, fun c hc => .inr (by simp only [List.mem_singleton] at hc; omega)⟩
  have hrd : rc.defers = w.heap.size := by rw [hrc]
  have hspec := hc rc (w.heap.size + 1) _ (by rw [hrc]; exact hx.1.1) (by rw [hrc]; exact hx.2) (by rw [hrc]) (by rw [hrc]) (by rw [hrc]) (by rw [hrc]) (by rw [hrc]) (by rw [hrd]; exact hs2)
  have hperm : (blk (w.heap.size + 1) (.loop rc) :: blk w.heap.size (.deferred (some [])) :: (pre ++ R)).Perm ((blk (w.heap.size + 1) (.loop rc) :: pre) ++ (blk w.heap.size (.deferred (some [])) :: R)) := by
    simp only [List.cons_append]
    exact (List.perm_middle.symm).cons _
  have hs3 := hs2.perm hperm
  obtain ⟨l1, s1, key⟩ := hs3.part
  refine ⟨w.heap.size + 1, [{ target := .collected w.heap.size, args := #[] }], (w.alloc (.deferred (some []))).alloc (.loop rc), { target := .fn (.func gf) lb, args := #[.func (.yield (w.heap.size + 1)) #[] #[]] }, (w.alloc (.deferred (some []))).alloc (.loop rc), gf,
    #[.func (.yield (w.heap.size + 1)) #[] #[]] ++ lb, (w.alloc (.deferred (some []))).alloc (.loop rc), by rw [show (fen none).round = none from rfl, run_enterLoop_outer, ← hrc], ?_, fun _ _ => trivial, ?_, fen_depth, ?_⟩
  · simp only [resolve, ev_rel hx, hg]
    simp [go_sem]
    rfl
  · simp [invoke, go_sem, hf]
  · refine calls_fen (Calls.mono (hspec l1 hs3.size s1) ?_)
    rintro e w3 ⟨v, rfl, H', l', hp, hsep, hu⟩
    obtain ⟨rc', H'', hne, hd, rfl, hfin⟩ := hk rc _ v H' hp
    have hs4 := key w3 _ l' hsep hu
    have hs5 := putObj_blk (.loop { rc' with state := .exhausted }) hs4
    have hs6 := hs5.drop
    have hs7 : St B w0 l0 (w3.putObj (w.heap.size + 1) (.loop { rc' with state := .exhausted })) (blk rc.defers (.deferred (some [])) :: (H'' ++ R)) := by
      rw [hrd]; exact hs6.perm List.perm_middle
    refine ⟨rc'.pending, _, run_endLoop (hs4.heapAt 0 rfl) hne, ?_⟩
    have h8 := hfin _ hs7
    have hrel : Rel { x with defers := [{ target := .collected w.heap.size, args := #[] }] ++ x.defers } (s.mark rc.defers) := by
      refine ⟨⟨hx.1.1, ?_⟩, hx.2⟩
      simp [Fs.mark, hrd, hx.1.2]
    cases hpe : rc'.pending with
    | none => rw [hpe] at h8; exact ⟨_, hrel, hr, h8⟩
    | some c =>
      rw [hpe] at h8
      have h9 := W.out h8 _ hrel
      have hmr : (s.mark rc.defers).r = none := hr
      rw [hmr] at h9
      exact h9
theorem leave_mark {P : Program} {fn : Func} {R : Value → World → Prop} {s : Fs} {B : Nat} {w0 w : World} {l0 : List Nat} {D : Nat} {H : List Asn} {v : Value} (hs : St B w0 l0 w (blk D (.deferred (some [])) :: H))
    (hd : s.d = [{ target := .collected D, args := #[] }]) (hv : ∀ w', St B w0 l0 w' H → (resD fn s).run P w' = .ok v w') (hR : ∀ w', St B w0 l0 w' H → R v w') : Leave P fn R s w := by
  refine ⟨?_⟩
  rw [hd]
  have h := (putObj_blk (.deferred none) hs).drop
  exact ⟨D, _, rfl, run_takeDeferred hs.head, v, hv _ h, hR _ h⟩
def scalarB (P : Program) (t : TypeId) : Bool :=
  match P.underlying t with
  | some (.struct _) => false
  | some (.array _ _) => false
  | some _ => true
  | none => false
theorem run_loadVar_cell {P : Program} {w : World} {t : TypeId} {ad : Addr} {v : Value} (ht : scalarB P t = true) (hc : w.cell? ad = some v) : (loadVar t ad).run P w = .ok v w := by
  unfold scalarB at ht
  split at ht
  · cases ht
  · cases ht
  · rename_i d h1 h2 hu
    have hag : (isAgg t).run P w = .ok false w := by
      unfold isAgg
      rw [Sem.run_bind, run_underlying hu]
      simp only [Result.andThen_ok]
      cases d <;> first | rfl | exact (h1 _ rfl).elim | exact (h2 _ _ rfl).elim
    simp only [loadVar, Sem.run_bind, Result.andThen_ok, hag, load]
    simp [Sem.run, hc]
  · cases ht
inductive ResAt (P : Program) (s : Fs) (w : World) : ResultVar → Value → Prop
  | tmp {t : Tmp} {v : Value} (h : s.f t = v) : ResAt P s w (.tmp t) v
  | cell {a : Tmp} {t : TypeId} {ad : Addr} {v : Value} (ha : s.f a = .pointer (some ad)) (ht : scalarB P t = true) (hc : w.cell? ad = some v) : ResAt P s w (.cell a t) v
  | agg {a : Tmp} {t : TypeId} {ad : Addr} {cs : List Value} (ha : s.f a = .pointer (some ad)) (hz : aggSize P t = some cs.length) (hc : ∀ j v, cs[j]? = some v → w.cell? (ad.add j) = some v) : ResAt P s w (.cell a t) (.agg cs.toArray)
theorem ResAt.run {P : Program} {s : Fs} {w : World} {r : ResultVar} {v : Value} (h : ResAt P s w r v) :
    (resF s r).run P w = .ok v w := by
  cases h with
  | tmp h => subst h; rfl
  | cell ha ht hc => simp [resF, ha, asAddr, run_loadVar_cell ht hc]
  | agg ha hz hc => simp [resF, ha, asAddr, run_loadVar_agg hz hc]
theorem resD_one {P : Program} {s : Fs} {w : World} {fn : Func} {r : ResultVar} {v : Value} (hr : fn.results = #[r]) (h : ResAt P s w r v) : (resD fn s).run P w = .ok v w := by
  have h1 := h.run
  unfold resD
  rw [hr]
  simp [h1]
theorem resD_two {P : Program} {s : Fs} {w : World} {fn : Func} {r q : ResultVar} {v u : Value} (hr : fn.results = #[r, q]) (h : ResAt P s w r v) (h' : ResAt P s w q u) : (resD fn s).run P w = .ok (.tuple #[v, u]) w := by
  have h1 := h.run
  have h2 := h'.run
  unfold resD
  rw [hr]
  simp [Sem.run_bind, h1, h2]
theorem resS_of {P : Program} {s : Fs} {w : World} {fn : Func} {v : Value} (hd : s.d = []) (h : (resD fn s).run P w = .ok v w) : (resS fn s).run P w = .ok v w := by
  unfold resS
  rw [hd]
  exact h
def YA {G : Type} (l : Nat) (rc : Loop) (F : G → Prop) (Hs : G → List Asn) : Asn := exA F (fun x => blk l (.loop rc) :: Hs x)
theorem sep_exA {G : Type} {B : Nat} {w : World} {l : List Nat} {F : G → Prop} {Hs : G → List Asn} (x : G) (hF : F x) (h : Sep B w (Hs x) l) : Sep B w [exA F Hs] l :=
  ⟨l, [], ⟨x, hF, h⟩, fun b => by simp, fun b _ => by simp, by simp⟩
def jumpOf : Exit → Option Code
  | .ret => some .ret
  | .exit id => some (.exit id)
  | _ => none
def rq {G GZ : Type} (B : Nat) (w : World) (lf : List Nat) (l : Nat) (rc : Loop) (F' : G → Prop) (Hs : G → List Asn) (c : Code) (FZ : GZ → Prop) (HsZ : GZ → List Asn) : Exit → Fs → World → Prop
  | .normal, _, w3 => ∃ x, F' x ∧ St B w lf w3 (blk l (.loop { rc with state := .busy }) :: Hs x)
  | e, _, w3 => jumpOf e = some c ∧ ∃ z, FZ z ∧ St B w lf w3 (blk l (.loop { rc with state := .busy }) :: HsZ z)
theorem yspec_ghost {G GZ : Type} {P : Program} {B : Nat} {w : World} {l : Nat} {rc : Loop} {args : Array Value} {F F' : G → Prop} {Hs : G → List Asn} {c : Code} {FZ : GZ → Prop} {HsZ : GZ → List Asn}
    (hst : rc.state = .ready) (hpe : rc.pending = none) (hsz : args.size = rc.params.size)
    (s0 : Fs) (hs0 : Rel ⟨(rc.params.zip args).foldl (fun tmps (t, a) => tmps.setIfInBounds t a) rc.tmps, []⟩ s0) (hr0 : s0.r = some l)
    (walk : ∀ x, F x → ∀ lf, St B w lf w (blk l (.loop rc) :: Hs x) → ∀ K : Fs → World → Prop, (∀ s' w1, St B w lf w1 (blk l (.loop rc) :: Hs x) →
      (∀ w2, St B w lf w2 (blk l (.loop { rc with state := .busy }) :: Hs x) → W P rc.body s' w2 (rq B w lf l rc F' Hs c FZ HsZ)) → K s' w1) → W P rc.assign s0 w (seqQ K (fun _ _ _ => False))) :
    YSpec P l args B w [YA l rc F Hs] (fun v H' => (v = .bool true ∧ H' = [YA l rc F' Hs]) ∨ (v = .bool false ∧ H' = [YA l { rc with state := .done, pending := some c } FZ HsZ])) := by
  intro lf hB hsep
  obtain ⟨l1, l2, ⟨x, hF, h1⟩, h2, hd, hm⟩ := hsep
  have hmm : ∀ b, b ∈ lf ↔ b ∈ l1 := fun b => by rw [hm b]; exact ⟨fun h => h.resolve_right (h2 b), .inl⟩
  have key := yspec_round (P := P) (B := B) (w := w) (Y := Hs x) (args := args) (post := fun v H' =>
      (∃ x', F' x' ∧ v = .bool true ∧ H' = blk l (.loop rc) :: Hs x') ∨ (∃ z, FZ z ∧ v = .bool false ∧ H' = blk l (.loop { rc with state := .done, pending := some c }) :: HsZ z)) hst hsz s0 hs0 hr0 (by
    intro lf' hs K hK
    refine walk x hF lf' hs K fun s' w1 h3 h4 => hK s' w1 h3 fun w2 h5 => (h4 w2 h5).mono ?_
    intro e s3 w3 hq
    have hrc : ({ rc with state := .ready, pending := none } : Loop) = rc := by cases rc; simp_all
    cases e with
    | normal =>
      obtain ⟨x', hF', h6⟩ := hq
      exact ⟨_, h6, .inl ⟨x', hF', rfl, by rw [hrc]⟩⟩
    | ret =>
      obtain ⟨hj, z, hz, h6⟩ := hq
      simp only [jumpOf, Option.some.injEq] at hj
      subst hj
      exact ⟨_, h6, .inr ⟨z, hz, rfl, rfl⟩⟩
    | exit id =>
      obtain ⟨hj, z, hz, h6⟩ := hq
      simp only [jumpOf, Option.some.injEq] at hj
      subst hj
      exact ⟨_, h6, .inr ⟨z, hz, rfl, rfl⟩⟩
    | goto t => obtain ⟨hj, _⟩ := hq; cases hj
    | panic t => obtain ⟨hj, _⟩ := hq; cases hj
    | outgrown => obtain ⟨hj, _⟩ := hq; cases hj)
  obtain ⟨f, tmps, assign, body, hy, hrd⟩ := key l1 hB h1
  refine ⟨f, tmps, assign, body, hy, RoundIn.mono hrd ?_⟩
  rintro e w' ⟨v, rfl, H', l', hp, hs', hu⟩
  have hu' : Upd w w' lf l' := ⟨hu.os, hu.tape, hu.output, hu.size, fun b hb hn => hu.block b hb fun h => hn ((hmm b).2 h), fun b hb => (hu.foot b hb).imp (fun h => (hmm b).2 h) id⟩
  rcases hp with ⟨x', hF', rfl, rfl⟩ | ⟨z, hz, rfl, rfl⟩
  · exact ⟨_, rfl, _, l', .inl ⟨rfl, rfl⟩, sep_exA x' hF' hs', hu'⟩
  · exact ⟨_, rfl, _, l', .inr ⟨rfl, rfl⟩, sep_exA z hz hs', hu'⟩
theorem W.rounds {G GZ : Type} {P : Program} {s : Fs} {w : World} {Q : Exit → Fs → World → Prop} {B : Nat} {w0 : World} {l0 : List Nat} {g : Operand} {ps : Array Tmp} {assign body : Code} {gf : Nat} {lb : Array Value}
    (n : Nat) (F : Nat → G → Prop) (Hs : G → List Asn) (c : Code) (FZ : GZ → Prop) (HsZ : GZ → List Asn) (own : List Asn) (enc : Nat → Array Value) (s0 : Nat → Nat → Fs) (x0 : G) (h0 : F 0 x0)
    (hs : St B w0 l0 w (own ++ Hs x0)) (hr : s.r = none) (hg : evS s g = .func (.func gf) #[] lb) (hf : ∀ args w, (callFunc gf args).run P w = .ok (.enter gf args) w) (hsz : ∀ k, (enc k).size = ps.size)
    (hrel : ∀ (a : Array Value) (k l : Nat), a.size = s.n → (∀ i, a.getD i undef = s.f i) → Rel ⟨(ps.zip (enc k)).foldl (fun tmps (t, a) => tmps.setIfInBounds t a) a, []⟩ (s0 k l) ∧ (s0 k l).r = some l)
    (iter : ∀ (l : Nat) (w1 : World) (Y : Nat → Asn) (Z : Asn), (∀ k, k < n → ∀ w', YSpec P l (enc k) B w' [Y k] (fun v H' => (v = .bool true ∧ H' = [Y (k + 1)]) ∨ (v = .bool false ∧ H' = [Z]))) →
      Spec P gf (#[.func (.yield l) #[] #[]] ++ lb) B w1 (own ++ [Y 0]) (fun v H' => v = .tuple #[] ∧ (H' = own ++ [Y n] ∨ H' = own ++ [Z])))
    (round : ∀ (k : Nat), k < n → ∀ (rc : Loop) (l : Nat) (w' : World) (x : G), F k x → ∀ lf, St B w' lf w' (blk l (.loop rc) :: Hs x) → ∀ K : Fs → World → Prop, (∀ s' w1, St B w' lf w1 (blk l (.loop rc) :: Hs x) →
      (∀ w2, St B w' lf w2 (blk l (.loop { rc with state := .busy }) :: Hs x) → W P body s' w2 (rq B w' lf l rc (F (k + 1)) Hs c FZ HsZ)) → K s' w1) → W P assign (s0 k l) w' (seqQ K (fun _ _ _ => False)))
    (done : ∀ D w3 x, F n x → St B w0 l0 w3 (blk D (.deferred (some [])) :: (own ++ Hs x)) → Q .normal (s.mark D) w3)
    (jump : ∀ D w3 z, FZ z → St B w0 l0 w3 (blk D (.deferred (some [])) :: (own ++ HsZ z)) → W P c (s.mark D) w3 Q) : W P (.rangeFunc g ps assign body) s w Q := by
  refine W.rangeFunc (pre := own ++ Hs x0) (R := []) (post := fun rc l v H' => v = .tuple #[] ∧ ((∃ x, F n x ∧ H' = blk l (.loop rc) :: (own ++ Hs x)) ∨ (∃ z, FZ z ∧ H' = blk l (.loop { rc with state := .done, pending := some c }) :: (own ++ HsZ z))) ∧ rc.state = .ready ∧ rc.pending = none) (by simpa using hs) hr hg hf ?_ ?_
  · intro rc l w1 h1 h2 h3 h4 h5 h6 h7 hs1
    have hyy : ∀ k, k < n → ∀ w', YSpec P l (enc k) B w' [YA l rc (F k) Hs] (fun v H' => (v = .bool true ∧ H' = [YA l rc (F (k + 1)) Hs]) ∨ (v = .bool false ∧ H' = [YA l { rc with state := .done, pending := some c } FZ HsZ])) := by
      intro k hk w'
      obtain ⟨hrl, hrr⟩ := hrel rc.tmps k l h1 h2
      rw [← h5] at hrl
      refine yspec_ghost h3 h4 (by rw [h5]; exact hsz k) (s0 k l) hrl hrr ?_
      intro x hF lf hs2
      have hw := round k hk rc l w' x hF lf hs2
      rw [← h6, ← h7] at hw
      exact hw
    have hit := iter l w1 (fun k => YA l rc (F k) Hs) (YA l { rc with state := .done, pending := some c } FZ HsZ) hyy
    intro lf hB hsep
    have st1 : St B w1 lf w1 (blk l (.loop rc) :: (own ++ Hs x0)) := St.begin hB hsep
    have hp1 : (blk l (.loop rc) :: (own ++ Hs x0)).Perm (blk l (.loop rc) :: Hs x0 ++ own) := by
      simp only [List.cons_append]
      exact List.Perm.cons _ List.perm_append_comm
    have st2 := St.close (F := F 0) (Hs := fun x => blk l (.loop rc) :: Hs x) x0 h0 (st1.perm hp1)
    have st3 : St B w1 lf w1 (own ++ [YA l rc (F 0) Hs]) := st2.perm (List.perm_append_singleton _ _).symm
    have st4 : St B w1 lf w1 ((own ++ [YA l rc (F 0) Hs]) ++ []) := by simpa using st3
    obtain ⟨l1, s1, key⟩ := st4.part
    refine Calls.mono (hit l1 hB s1) ?_
    rintro e w3 ⟨v, rfl, H', l', ⟨rfl, hp⟩, hsep', hu⟩
    have fin : ∀ {G' : Type} (rc' : Loop) (F' : G' → Prop) (Hs' : G' → List Asn), H' = own ++ [YA l rc' F' Hs'] → ∃ x, F' x ∧ St B w1 lf w3 (blk l (.loop rc') :: (own ++ Hs' x)) := by
      intro G' rc' F' Hs' hH
      subst hH
      have st5 := key w3 _ l' hsep' hu
      have st6 : St B w1 lf w3 (YA l rc' F' Hs' :: own) := by
        have : ((own ++ [YA l rc' F' Hs']) ++ []).Perm (YA l rc' F' Hs' :: own) := by rw [List.append_nil]; exact List.perm_append_singleton (YA l rc' F' Hs') own
        exact st5.perm this
      obtain ⟨x, hF, st7⟩ := St.open (F := F') (Hs := fun x => blk l (.loop rc') :: Hs' x) st6
      refine ⟨x, hF, st7.perm ?_⟩
      simp only [List.cons_append]
      exact List.Perm.cons _ List.perm_append_comm
    rcases hp with hp | hp
    · obtain ⟨x, hF, _, _, l5, h8, h9⟩ := fin _ _ _ hp
      exact ⟨_, rfl, _, l5, ⟨rfl, .inl ⟨x, hF, rfl⟩, h3, h4⟩, h8, h9⟩
    · obtain ⟨z, hz, _, _, l5, h8, h9⟩ := fin _ _ _ hp
      exact ⟨_, rfl, _, l5, ⟨rfl, .inr ⟨z, hz, rfl⟩, h3, h4⟩, h8, h9⟩
  · rintro rc l v H' ⟨rfl, hp, h3, h4⟩
    rcases hp with ⟨x, hF, rfl⟩ | ⟨z, hz, rfl⟩
    · refine ⟨rc, own ++ Hs x, (fun h => by have h' := h3.symm.trans h; cases h'), rfl, rfl, fun w3 hs3 => ?_⟩
      rw [h4]
      exact done _ w3 x hF (by simpa using hs3)
    · refine ⟨{ rc with state := .done, pending := some c }, own ++ HsZ z, (fun h => by cases h), rfl, rfl, fun w3 hs3 => ?_⟩
      exact jump _ w3 z hz (by simpa using hs3)
theorem rel_round1 {n : Nat} {L : List (Nat × Value)} {us : Nat → Value} {l p : Nat} {v : Value} (hp : p < n) {a : Array Value} (h1 : a.size = n) (h2 : ∀ i, a.getD i undef = look L i (us i)) :
    Rel ⟨((#[p] : Array Tmp).zip #[v]).foldl (fun tmps (t, a) => tmps.setIfInBounds t a) a, []⟩ (slotsD n ((p, v) :: L) us (some l) []) := by
  have h := rel_set h1 h2 hp v
  have e : ((#[p] : Array Tmp).zip #[v]).foldl (fun tmps (t, a) => tmps.setIfInBounds t a) a = a.setIfInBounds p v := by simp [Array.zip]
  rw [e]
  exact ⟨⟨h.1, rfl⟩, h.2⟩
theorem rel_round2 {n : Nat} {L : List (Nat × Value)} {us : Nat → Value} {l p q : Nat} {v u : Value} (hp : p < n) (hq : q < n) {a : Array Value} (h1 : a.size = n) (h2 : ∀ i, a.getD i undef = look L i (us i)) :
    Rel ⟨((#[p, q] : Array Tmp).zip #[v, u]).foldl (fun tmps (t, a) => tmps.setIfInBounds t a) a, []⟩ (slotsD n ((q, u) :: (p, v) :: L) us (some l) []) := by
  have h := rel_set h1 h2 hp v
  have h' := rel_set h.1 h.2 hq u
  have e : ((#[p, q] : Array Tmp).zip #[v, u]).foldl (fun tmps (t, a) => tmps.setIfInBounds t a) a = (a.setIfInBounds p v).setIfInBounds q u := by simp [Array.zip]
  rw [e]
  exact ⟨⟨h'.1, rfl⟩, h'.2⟩
def rounds {σ ρ : Type} (body : Nat → (σ → Option ρ) → σ → Option ρ) (done : σ → Option ρ) : Nat → Nat → σ → Option ρ
  | 0, _, s => done s
  | m + 1, k, s => body k (rounds body done m (k + 1)) s
theorem rounds_at {σ ρ : Type} {body : Nat → (σ → Option ρ) → σ → Option ρ} {done : σ → Option ρ} {n k : Nat} (hk : k < n) (s : σ) : rounds body done (n - k) k s = body k (rounds body done (n - (k + 1)) (k + 1)) s := by
  obtain ⟨m, hm⟩ : ∃ m, n - k = m + 1 := ⟨n - k - 1, by omega⟩
  rw [hm, show n - (k + 1) = m by omega]
  rfl
theorem rounds_end {σ ρ : Type} {body : Nat → (σ → Option ρ) → σ → Option ρ} {done : σ → Option ρ} {n : Nat} (s : σ) : rounds body done (n - n) n s = done s := by
  rw [Nat.sub_self]
  rfl
def Kept (w0 w : World) : Prop := ∀ b, b < w0.heap.size → w.heap[b]? = w0.heap[b]?
theorem Kept.blk {w0 w : World} (h : Kept w0 w) {b : Nat} {o : Obj} (hb : w0.heap[b]? = some o) : w.heap[b]? = some o := by
  rw [h b (Array.getElem?_eq_some_iff.1 hb).1]; exact hb
theorem Kept.cell {w0 w : World} (h : Kept w0 w) {ad : Addr} {v : Value} (hc : w0.cell? ad = some v) : w.cell? ad = some v := by
  have hb := World.block_lt_of_cell? w0 ad hc
  rw [World.cell?_of_block (w := w0) (h ad.block hb)]
  exact hc
theorem Kept.cells {w0 w : World} (h : Kept w0 w) {a : Option Addr} {cs : List Value} (hc : CellsAt a cs w0) : CellsAt a cs w := by
  cases a with
  | none => exact hc
  | some ad => exact fun j v hv => h.cell (hc j v hv)
theorem Kept.map {w0 w : World} (h : Kept w0 w) {b : Nat} {l : List (Int × Int)} (hm : MapAt b l w0) : MapAt b l w := by
  obtain ⟨es, clock, hb, he⟩ := hm
  exact ⟨es, clock, h.blk hb, he⟩
end Go.Proofs.YtmmclabkkigiaaaGreat

namespace Go.Proofs.YtmmclabkkigiaaaGreat
open Go Go.RowKit
theorem W.roundsA {G GZ : Type} {P : Program} {s : Fs} {w : World} {Q : Exit → Fs → World → Prop} {B : Nat} {w0 : World} {l0 : List Nat} {g : Operand} {ps : Array Tmp} {assign body : Code} {gf : Nat} {lb : Array Value}
    (n : Nat) (F : Nat → G → Prop) (Hs : G → List Asn) (c : Code) (FZ : GZ → Prop) (HsZ : GZ → List Asn) (own : List Asn) (enc : Nat → Array Value) (s0 : Nat → Nat → Fs) (x0 : G) (h0 : F 0 x0)
    (hs : St B w0 l0 w (own ++ Hs x0)) (hr : s.r = none) (hg : evS s g = .func (.func gf) #[] lb) (hf : ∀ args w, (callFunc gf args).run P w = .ok (.enter gf args) w) (hsz : ∀ k, (enc k).size = ps.size)
    (hrel : ∀ (a : Array Value) (k l : Nat), a.size = s.n → (∀ i, a.getD i undef = s.f i) → Rel ⟨(ps.zip (enc k)).foldl (fun tmps (t, a) => tmps.setIfInBounds t a) a, []⟩ (s0 k l) ∧ (s0 k l).r = some l)
    (ar : Nat → Array Value) (har : ∀ l, #[.func (.yield l) #[] #[]] ++ lb = ar l)
    (iter : ∀ (l : Nat) (w1 : World) (Y : Nat → Asn) (Z : Asn), (∀ k, k < n → ∀ w', YSpec P l (enc k) B w' [Y k] (fun v H' => (v = .bool true ∧ H' = [Y (k + 1)]) ∨ (v = .bool false ∧ H' = [Z]))) →
      Spec P gf (ar l) B w1 (own ++ [Y 0]) (fun v H' => v = .tuple #[] ∧ (H' = own ++ [Y n] ∨ H' = own ++ [Z])))
    (round : ∀ (k : Nat), k < n → ∀ (rc : Loop) (l : Nat) (w' : World) (x : G), F k x → ∀ lf, St B w' lf w' (blk l (.loop rc) :: Hs x) → ∀ K : Fs → World → Prop, (∀ s' w1, St B w' lf w1 (blk l (.loop rc) :: Hs x) →
      (∀ w2, St B w' lf w2 (blk l (.loop { rc with state := .busy }) :: Hs x) → W P body s' w2 (rq B w' lf l rc (F (k + 1)) Hs c FZ HsZ)) → K s' w1) → W P assign (s0 k l) w' (seqQ K (fun _ _ _ => False)))
    (done : ∀ D w3 x, F n x → St B w0 l0 w3 (blk D (.deferred (some [])) :: (own ++ Hs x)) → Q .normal (s.mark D) w3)
    (jump : ∀ D w3 z, FZ z → St B w0 l0 w3 (blk D (.deferred (some [])) :: (own ++ HsZ z)) → W P c (s.mark D) w3 Q) : W P (.rangeFunc g ps assign body) s w Q :=
  W.rounds n F Hs c FZ HsZ own enc s0 x0 h0 hs hr hg hf hsz hrel (fun l w1 Y Z hy => by rw [har l]; exact iter l w1 Y Z hy) round done jump
end Go.Proofs.YtmmclabkkigiaaaGreat
