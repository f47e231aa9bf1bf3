/- Regions whose order is drawn: what only reads is taken first, wherever a condition S on the world says what it reads. -/
import Derived.Test.YthimamnblklkbaaDoorSq
import Derived.OrdersHeld
import Derived.Deep.RegionHeld
namespace Go.Proofs.YthimamnblklkbaaDoor
open Go Go.RowKit

/-! ### what has come up, as bits of a number -/
def sub (m L : Nat) : Bool := Nat.beq (Nat.land m L) m

theorem sub_iff {m L : Nat} : sub m L = true ↔ ∀ j, m.testBit j = true → L.testBit j = true := by
  unfold sub
  constructor
  · intro h j hj
    have e : m &&& L = m := Nat.eq_of_beq_eq_true h
    rw [← e, Nat.testBit_and, Bool.and_eq_true] at hj
    exact hj.2
  · intro h
    have e : m &&& L = m := by
      refine Nat.eq_of_testBit_eq fun j => ?_
      rw [Nat.testBit_and]
      cases hm : m.testBit j with
      | false => rfl
      | true => rw [h j hm]; rfl
    show Nat.beq (m &&& L) m = true
    rw [e]
    exact Nat.beq_refl m

def orBits {α : Type} (c : α → Bool) (f : α → Nat) : List α → Nat
  | [] => 0
  | e :: l => bif c e then Nat.lor (Nat.shiftLeft 1 (f e)) (orBits c f l) else orBits c f l

theorem orBits_bit {α : Type} (c : α → Bool) (f : α → Nat) (j : Nat) : ∀ l : List α, (orBits c f l).testBit j = l.any fun e => c e && f e == j
  | [] => by simp [orBits]
  | e :: l => by
    have h1 : ∀ a b : Nat, Nat.lor a b = a ||| b := fun _ _ => rfl
    have h2 : Nat.shiftLeft 1 (f e) = 2 ^ f e := by
      show 1 <<< f e = _
      rw [Nat.one_shiftLeft]
    simp only [orBits, List.any_cons, ← orBits_bit c f j l]
    cases c e with
    | false => simp
    | true =>
      simp only [cond_true, h1, h2, Nat.testBit_or, Nat.testBit_two_pow, Bool.true_and]
      by_cases hj : f e = j <;> simp [hj]

def afterM (o : Oper) : Nat := orBits (fun e => Region.binds .any e) (fun e => e.on) o.after.toList
def freeM (ops : Array Oper) (i : Nat) (oi : Oper) : Nat :=
  orBits (fun j => !(Nat.beq j i || match ops[j]? with
    | some oj => oj.after.any (fun e => Region.binds .any e && e.on == i) || oi.apart ops oj
    | none => true)) id (List.range ops.size)
/-- for each operation: those that it waits for; those that must have come up for it to be taken. -/
def tabOf (ops : Array Oper) : List (Nat × Nat) := (List.range ops.size).map fun i => match ops[i]? with
  | some o => (afterM o, freeM ops i o)
  | none => (0, 0)

def Mask (n : Nat) (listed : Array Bool) (L : Nat) : Prop := listed.size = n ∧ ∀ j, listed.getD j false = L.testBit j

def readyM (T : List (Nat × Nat)) (L : Nat) : List Nat := (List.range T.length).filter fun i => !L.testBit i && sub (T.getD i (0, 0)).1 L
def takeB (T : List (Nat × Nat)) (i L : Nat) : Bool := Nat.blt i T.length && (!L.testBit i && (sub (T.getD i (0, 0)).1 L && sub (T.getD i (0, 0)).2 L))

section
variable {ops : Array Oper} {T : List (Nat × Nat)} {listed : Array Bool} {L : Nat}

theorem tab_get (hT : tabOf ops = T) {i : Nat} {o : Oper} (ho : ops[i]? = some o) : T.getD i (0, 0) = (afterM o, freeM ops i o) := by
  subst hT
  obtain ⟨hi, he⟩ := Array.getElem?_eq_some_iff.1 ho
  subst he
  simp [tabOf, hi]

theorem mask_true (hm : Mask ops.size listed L) {i : Nat} (hi : i < ops.size) : listed.getD i true = L.testBit i := by
  rw [← hm.2 i]
  simp [Array.getD, hm.1, hi]

theorem mask_after (hT : tabOf ops = T) (hm : Mask ops.size listed L) {i : Nat} {o : Oper} (ho : ops[i]? = some o) :
    (o.after.all fun e => !Region.binds .any e || listed.getD e.on false) = sub (T.getD i (0, 0)).1 L := by
  rw [tab_get hT ho]
  rw [Bool.eq_iff_iff, sub_iff]
  simp only [Array.all_eq_true_iff_forall_mem, afterM, orBits_bit, List.any_eq_true, Bool.and_eq_true, beq_iff_eq, Bool.or_eq_true, Bool.not_eq_true', hm.2]
  constructor
  · rintro h j ⟨e, he, hb, rfl⟩
    rcases h e (by simpa using he) with h | h
    · rw [hb] at h; cases h
    · exact h
  · intro h e he
    cases hb : Region.binds .any e with
    | false => exact .inl rfl
    | true => exact .inr (h e.on ⟨e, by simpa using he, hb, rfl⟩)

theorem mask_ready (hT : tabOf ops = T) (hm : Mask ops.size listed L) : Region.ready .any ops listed = readyM T L := by
  have hl : T.length = ops.size := by subst hT; simp [tabOf]
  unfold Region.ready readyM
  rw [hl]
  refine List.filter_congr fun i hi => ?_
  have hi' : i < ops.size := by simpa using hi
  have ho : ops[i]? = some ops[i] := by simp [hi']
  rw [mask_true hm hi', ho]
  simp only [Option.map_some, Option.getD_some]
  rw [mask_after hT hm ho]

theorem mask_free (hT : tabOf ops = T) (hm : Mask ops.size listed L) {i : Nat} {o : Oper} (ho : ops[i]? = some o) (h : sub (T.getD i (0, 0)).2 L = true) : Region.free .any ops listed i = true := by
  rw [tab_get hT ho, sub_iff] at h
  simp only [Region.free, ho, List.all_eq_true, List.mem_range, Bool.or_eq_true, beq_iff_eq]
  intro j hj
  rw [mask_true hm hj]
  by_cases hji : j = i
  · exact .inl (.inl hji)
  · cases hL : L.testBit j with
    | true => exact .inl (.inr rfl)
    | false =>
      refine .inr ?_
      have h1 := h j
      simp only [freeM, orBits_bit, List.any_eq_true, id, Bool.and_eq_true, beq_iff_eq] at h1
      cases hc : (match ops[j]? with
        | some oj => oj.after.any (fun e => Region.binds .any e && e.on == i) || o.apart ops oj
        | none => true) with
      | true => exact hc
      | false =>
        exfalso
        have h2 := h1 ⟨j, by simpa using hj, ?_, rfl⟩
        · rw [hL] at h2; cases h2
        · have hne : Nat.beq j i = false := by
            cases hb : Nat.beq j i with
            | false => rfl
            | true => exact (hji (Nat.eq_of_beq_eq_true hb)).elim
          rw [hne, hc]
          rfl

theorem mask_set (hm : Mask ops.size listed L) {i : Nat} (hi : i < ops.size) : Mask ops.size (listed.setIfInBounds i true) (Nat.lor L (Nat.shiftLeft 1 i)) := by
  refine ⟨by simpa using hm.1, fun j => ?_⟩
  have h1 : ∀ a b : Nat, Nat.lor a b = a ||| b := fun _ _ => rfl
  have h2 : Nat.shiftLeft 1 i = 2 ^ i := by
    show 1 <<< i = _
    rw [Nat.one_shiftLeft]
  rw [h1, h2, Nat.testBit_or, Nat.testBit_two_pow, ← hm.2 j]
  by_cases e : i = j
  · subst e
    simp [hm.1, hi]
  · simp [Array.getD_eq_getD_getElem?, Array.getElem?_setIfInBounds, e]

theorem mask_none (n : Nat) : Mask n (Array.replicate n false) 0 := by
  refine ⟨by simp, fun j => ?_⟩
  simp only [Array.getD_eq_getD_getElem?, Array.getElem?_replicate, Nat.zero_testBit]
  split <;> rfl
end

theorem take_ready {ops : Array Oper} {T : List (Nat × Nat)} {listed : Array Bool} {L i : Nat} (hT : tabOf ops = T) (hm : Mask ops.size listed L) (hi : i < T.length) (h1 : (!L.testBit i) = true) (h2 : sub (T.getD i (0, 0)).1 L = true) :
    (Region.ready .any ops listed).contains i = true := by
  rw [mask_ready hT hm]
  unfold readyM
  rw [List.contains_iff_mem, List.mem_filter, List.mem_range]
  exact ⟨hi, by rw [h1, h2]; rfl⟩

def tabB (ops : Array Oper) (T : List (Nat × Nat)) : Bool := eqP (tabOf ops) T
where eqP : List (Nat × Nat) → List (Nat × Nat) → Bool
  | [], [] => true
  | (a, b) :: l, (c, d) :: m => Nat.beq a c && (Nat.beq b d && eqP l m)
  | _, _ => false
theorem tabB_eqP : ∀ l m : List (Nat × Nat), tabB.eqP l m = true → l = m
  | [], [], _ => rfl
  | (a, b) :: l, (c, d) :: m, h => by
    simp only [tabB.eqP, Bool.and_eq_true] at h
    rw [Nat.eq_of_beq_eq_true h.1, Nat.eq_of_beq_eq_true h.2.1, tabB_eqP l m h.2.2]
  | [], _ :: _, h => by simp [tabB.eqP] at h
  | _ :: _, [], h => by simp [tabB.eqP] at h
theorem tabB_eq {ops : Array Oper} {T : List (Nat × Nat)} (h : tabB ops T = true) : tabOf ops = T := tabB_eqP _ _ h

/-- A drawn region under way: L has come up. -/
structure AnyAt (P : Program) (ops : Array Oper) (T : List (Nat × Nat)) (S : World → Prop) (fuel : Nat) (L : Nat) (s : Fs) (w : World) (K : Fs → World → Prop) : Prop where
  out : Region.noSelect ops = true → tabOf ops = T → ∀ x listed, Rel x s → Mask ops.size listed L → wpAnyH P .any ops (fun e y w => e = .normal ∧ ∃ s', Rel y s' ∧ s'.r = s.r ∧ K s' w) S fuel listed x w

/-- one operation that gives a value. -/
def valVQ (P : Program) (ops : Array Oper) (i : Nat) (s : Fs) (w : World) : Option (Value × World) :=
  match opQ ops i s with
  | some o => match (execOp (evS s) o).run P w with
    | .ok (.value v) w' => some (v, w')
    | _ => none
  | none => none

/-- the value, by a run in whatever world. -/
def ixV (P : Program) (ops : Array Oper) (i : Nat) (s : Fs) : Value :=
  match valVQ P ops i s default with
  | some (v, _) => v
  | none => undef

/-- the operation alone, its guard struck. -/
def alone (ops : Array Oper) (i : Nat) : Array Oper := #[{ ops.getD i default with guard := none }]

section
variable {M : Bool} {P : Program} {ops : Array Oper} {T : List (Nat × Nat)} {S : World → Prop} {s : Fs} {w : World} {K : Fs → World → Prop}

theorem any_R (i : Nat) {fuel : Nat} {L : Nat} {v : Value} (hb : takeB T i L = true) (hy : ∀ w', S w' → RunsTo P ops i s w' v w') (hS : S w)
    (h : AnyAt P ops T S fuel (Nat.lor L (Nat.shiftLeft 1 i)) (putS s (dstOf ops i) v) w K) : AnyAt P ops T S (fuel + 1) L s w K := by
  simp only [takeB, Bool.and_eq_true] at hb
  obtain ⟨o, ho, _⟩ := hy w hS
  obtain ⟨h1, h2, h3, h4⟩ := opQ_some' ho
  refine ⟨fun hsel hT x listed hx hmk => ?_⟩
  have hr' := rel_put hx h4 v
  have hi := (Array.getElem?_eq_some_iff.1 h1).1
  refine wpAnyH_take h1 hsel (mask_free hT hmk h1 hb.2.2.2) (take_ready hT hmk (by subst hT; simpa [tabOf] using hi) hb.2.1 hb.2.2.1) (fun _ _ _ h => absurd h.1 (by simp)) (v := v) (.inl ⟨by rw [yield_rel hx]; exact h2, fun w' hS' => ?_⟩) hS ?_
  · obtain ⟨o', ho', hr⟩ := hy w' hS'
    rw [ho] at ho'
    cases ho'
    rw [ev_rel hx]
    exact hr
  · rw [h3] at h
    have h5 := h.out hsel hT _ _ hr' (mask_set hmk hi)
    simp only [put_r] at h5
    exact h5

theorem any_take (i : Nat) {fuel : Nat} {L : Nat} (hb : takeB T i L = true) (hr : ∀ w', valVQ P ops i s w' = some (ixV P ops i s, w')) (hS : S w)
    (h : AnyAt P ops T S fuel (Nat.lor L (Nat.shiftLeft 1 i)) (putS s (dstOf ops i) (ixV P ops i s)) w K) : AnyAt P ops T S (fuel + 1) L s w K := by
  refine any_R i hb (fun w' _ => ?_) hS h
  have hr' := hr w'
  generalize ixV P ops i s = v at hr'
  unfold valVQ at hr'
  split at hr'
  · rename_i o ho
    refine ⟨o, ho, ?_⟩
    split at hr'
    · rename_i v' w1 hrun; cases hr'; exact hrun
    · cases hr'
  · cases hr'

theorem any_val {v v' : Value} (i : Nat) {fuel : Nat} {L : Nat} (hb : takeB T i L = true) (hr : ∀ w', valVQ P ops i s w' = some (v, w')) (hv : v = v') (hS : S w)
    (h : AnyAt P ops T S fuel (Nat.lor L (Nat.shiftLeft 1 i)) (putS s (dstOf ops i) v') w K) : AnyAt P ops T S (fuel + 1) L s w K := by
  subst hv
  refine any_R i hb (fun w' _ => ?_) hS h
  have hr' := hr w'
  unfold valVQ at hr'
  split at hr'
  · rename_i o ho
    refine ⟨o, ho, ?_⟩
    split at hr'
    · rename_i v' w1 hrun; cases hr'; exact hrun
    · cases hr'
  · cases hr'

/-- operation i is not wanted. -/
def skipQ (ops : Array Oper) (i : Nat) (s : Fs) : Bool :=
  match ops[i]? with
  | some o => !Region.wanted o (yieldS ops s) && inB o.dst s.n
  | none => false

theorem any_skip (i : Nat) {fuel : Nat} {L : Nat} (hb : takeB T i L = true) (hq : skipQ ops i s = true) (hS : S w)
    (h : AnyAt P ops T S fuel (Nat.lor L (Nat.shiftLeft 1 i)) (putS s (dstOf ops i) undef) w K) : AnyAt P ops T S (fuel + 1) L s w K := by
  simp only [takeB, Bool.and_eq_true] at hb
  unfold skipQ at hq
  split at hq
  · rename_i o ho
    simp only [Bool.and_eq_true, Bool.not_eq_true'] at hq
    have h3 : dstOf ops i = o.dst := by simp [dstOf, ho]
    refine ⟨fun hsel hT x listed hx hmk => ?_⟩
    have hr' := rel_put hx hq.2 undef
    have hi := (Array.getElem?_eq_some_iff.1 ho).1
    refine wpAnyH_take ho hsel (mask_free hT hmk ho hb.2.2.2) (take_ready hT hmk (by subst hT; simpa [tabOf] using hi) hb.2.1 hb.2.2.1) (fun _ _ _ h => absurd h.1 (by simp)) (.inr ⟨by rw [yield_rel hx]; exact hq.1, rfl⟩) hS ?_
    rw [h3] at h
    have h5 := h.out hsel hT _ _ hr' (mask_set hmk hi)
    simp only [put_r] at h5
    exact h5
  · cases hq

/-- whichever of these comes up. -/
theorem any_steps (js : List Nat) {fuel : Nat} {L : Nat} (hr : readyM T L = js) (hne : js ≠ []) (ho' : ∀ j ∈ js, (opQ ops j s).isSome = true)
    (h : ∀ j ∈ js, OpsAt false P (alone ops j) 0 s w (fun s' w' => S w' ∧ AnyAt P ops T S fuel (Nat.lor L (Nat.shiftLeft 1 j)) s' w' K)) : AnyAt P ops T S (fuel + 1) L s w K := by
  refine ⟨fun hsel hT x listed hx hmk => wpAnyH_all ((mask_ready hT hmk).trans hr) hne ?_⟩
  intro j hj
  obtain ⟨o, ho⟩ := Option.isSome_iff_exists.1 (ho' j hj)
  obtain ⟨h1, h2, h3, _⟩ := opQ_some' ho
  have hi := (Array.getElem?_eq_some_iff.1 h1).1
  have h := (h j hj).out x hx
  unfold wpOp
  have h2' : Region.wanted o (yielded ops x.tmps) = true := by rw [yield_rel hx]; exact h2
  simp only [h1, h2', if_true]
  have e0 : ops.getD j default = o := by
    have := (Array.getElem?_eq_some_iff.1 h1)
    obtain ⟨hlt, he⟩ := this
    simp [Array.getD, hlt, he]
  have e1 : (alone ops j)[0]? = some { o with guard := none } := by
    simp [alone, e0]
  have hsz : (alone ops j).size = 1 := rfl
  have e2 : Region.wanted { o with guard := none } (yielded (alone ops j) x.tmps) = true := rfl
  have h4 := h (fun e y w' => e = .normal ∧ ∃ s', Rel y s' ∧ s'.r = s.r ∧ (S w' ∧ AnyAt P ops T S fuel (Nat.lor L (Nat.shiftLeft 1 j)) s' w' K)) (fun y w' h => ⟨rfl, h⟩)
  simp only [wpM, hsz, Nat.sub_zero, List.range'_one, wpOps, e1, e2, if_true] at h4
  rcases h4 with h4 | h4
  · refine .inl ?_
    have h' : o.wp P x w (fun y w' => True ∧ ∃ s', Rel y s' ∧ s'.r = s.r ∧ S w' ∧ AnyAt P ops T S fuel (Nat.lor L (Nat.shiftLeft 1 j)) s' w' K) (fun e y w' => e = .normal ∧ ∃ s', Rel y s' ∧ s'.r = s.r ∧ S w' ∧ AnyAt P ops T S fuel (Nat.lor L (Nat.shiftLeft 1 j)) s' w' K) := h4
    clear h4
    unfold Oper.wp at *
    generalize (execOp (Act.eval x) o).run P w = r at *
    have key : ∀ (y : Act) (w : World), (True ∧ ∃ s', Rel y s' ∧ s'.r = s.r ∧ S w ∧ AnyAt P ops T S fuel (Nat.lor L (Nat.shiftLeft 1 j)) s' w K) →
        S w ∧ wpAnyH P .any ops (fun e y w => e = .normal ∧ ∃ s', Rel y s' ∧ s'.r = s.r ∧ K s' w) S fuel (listed.setIfInBounds j true) y w := by
      rintro y w ⟨_, s', hr, hs, hS, h⟩
      have h5 := h.out hsel hT y _ hr (mask_set hmk hi)
      simp only [hs] at h5
      exact ⟨hS, h5⟩
    cases r with
    | ok n w' =>
      cases n <;> simp only [Oper.upon] at h' ⊢ <;>
        first
          | exact key _ _ h'
          | exact Calls.mono h' (fun e w'' he => by
              cases e with
              | returned v => exact key _ _ he
              | panicked c => exact absurd he.1 (by simp)
              | outgrown => obtain ⟨_, _, hf⟩ := he; exact absurd hf.1 (by simp))
          | exact Rows.mono h' (fun _ _ he => key _ _ he)
    | halt x w' => cases x <;> simp only [Oper.upon] at h' ⊢ <;> exact absurd h'.1 (by simp)
  · obtain ⟨_, _, _, hf⟩ := h4
    exact absurd hf.1 (by simp)

/-- the one operation that may come up. -/
theorem any_step (i : Nat) {fuel : Nat} {L : Nat} (hr : readyM T L = [i]) (ho' : (opQ ops i s).isSome = true)
    (h : OpsAt false P (alone ops i) 0 s w (fun s' w' => S w' ∧ AnyAt P ops T S fuel (Nat.lor L (Nat.shiftLeft 1 i)) s' w' K)) : AnyAt P ops T S (fuel + 1) L s w K := by
  refine any_steps [i] hr (by simp) ?_ ?_
  · intro k hk
    simp only [List.mem_singleton] at hk
    subst hk
    exact ho'
  · intro k hk
    simp only [List.mem_singleton] at hk
    subst hk
    exact h

theorem any_set (i : Nat) {v : Value} {fuel : Nat} {L : Nat} (h : s.f i = v) (hk : AnyAt P ops T S fuel L (s.set i v) w K) : AnyAt P ops T S fuel L s w K := by
  rwa [setS i h] at hk

theorem any_done {fuel : Nat} {L : Nat} (hr : readyM T L = []) (h : K s w) : AnyAt P ops T S fuel L s w K :=
  ⟨fun _ hT _ _ hx hmk => wpAnyH_done ((mask_ready hT hmk).trans hr) ⟨rfl, s, hx, rfl, h⟩ fuel⟩

/-- no operation is a 'defer'. -/
def noDefer (ops : Array Oper) : Bool := ops.toList.all fun o => match o.op with | .defer _ => false | _ => true

theorem wpOps_fen {r : Option Nat} {Q : Exit → Act → World → Prop} (hQ : ¬ LetsOut Q) (hd : noDefer ops = true) : ∀ (l : List Nat) (x : Act) (w : World), wpOps P ops Q l x w → wpOpsIn (fen r) 0 P ops Q l x w
  | [], _, _, h => h
  | i :: rest, x, w, h => by
    simp only [wpOps, wpOpsIn] at h ⊢
    split
    · rename_i ho
      simp only [ho] at h
      exact wpOps_fen hQ hd rest x w h
    · rename_i o ho
      simp only [ho] at h
      split
      · rename_i hw
        simp only [hw, if_true] at h
        rcases h with h | h
        · refine ⟨fun _ _ => trivial, ?_⟩
          have hnd : ∀ c, o.op ≠ .defer c := by
            intro c hc
            simp only [noDefer, List.all_eq_true] at hd
            have := hd o (by simpa using Array.mem_of_getElem? ho)
            simp [hc] at this
          rw [Oper.semAt_eq _ _ _ hnd]
          unfold Oper.wp at h
          generalize (execOp (Act.eval x) o).run P w = res at *
          cases res with
          | ok n w' =>
            cases n <;> simp only [Oper.upon, Oper.uponIn] at h ⊢
            all_goals first
              | exact wpOps_fen hQ hd rest _ _ h
              | exact h.elim
              | exact ⟨fen_depth, calls_fen (Calls.mono h (fun e w'' he => by
                  cases e with
                  | returned v => exact wpOps_fen hQ hd rest _ _ he
                  | panicked c => exact he
                  | outgrown => exact he))⟩
              | exact ⟨fen_depth, fun c cs _ => let ⟨v, w2, h1, h2⟩ := h c cs; ⟨v, w2, wpOps_fen hQ hd rest _ _ h1, stepsIn_wide.2 h2⟩⟩
          | halt y w' => cases y <;> simp only [Oper.upon, Oper.uponIn] at h ⊢ <;> exact h
        · exact (hQ h.2).elim
      · rename_i hw
        simp only [hw] at h
        exact ⟨fun _ _ => trivial, wpOps_fen hQ hd rest _ _ h⟩

theorem W.regionD {id : Nat} {Q : Exit → Fs → World → Prop} (T : List (Nat × Nat)) (S : World → Prop) (hm : (P.follows .mixedOrders && (Region.noSelect ops && (tabB ops T && noDefer ops))) = true) (hS : S w.drew)
    (h : AnyAt P ops T S ops.size 0 s w.drew (Q .normal)) : W P (.region id ops true) s w Q := by
  simp only [Bool.and_eq_true] at hm
  refine ⟨fun x hx => wpIn_mono (Q := fun e y w => e = .normal ∧ ∃ s', Rel y s' ∧ s'.r = s.r ∧ Q .normal s' w) (wpIn_region_draw fun t => wpOps_fen ?_ hm.2.2.2 _ _ _ ?_) ?_⟩
  · rintro ⟨_, _, h, _⟩; cases h
  · simp only [Region.schedule, hm.1, Bool.true_or, if_true]
    exact wpAny_sound ops.size t _ x _ (wpAny_of_held _ _ _ _ (h.out hm.2.1 (tabB_eq hm.2.2.1) x _ hx (mask_none _)))
  · rintro e y w' ⟨rfl, s', h1, h2, h3⟩
    exact ⟨s', h1, h2, h3⟩
end
end Go.Proofs.YthimamnblklkbaaDoor
