/- '==' of structs and arrays, as one Bool. -/
import Derived.Test.YthimamnblklkbaaDoorKd
import Derived.Laws.StructEq
namespace Go.Proofs.YthimamnblklkbaaDoor
open Go Go.RowKit

theorem beq_yes {b c : Bool} {p q : Prop} (hp : b = true ↔ p) (hq : c = true ↔ q) (h : (b == c) = true) : p ↔ q := by
  have e : b = c := by simpa using h
  exact hp.symm.trans (by rw [e]; exact hq)
theorem beq_no {b c : Bool} {p q : Prop} (hp : b = true ↔ p) (hq : c = true ↔ q) (h : (b == c) = false) : ¬ (p ↔ q) := by
  intro hpq
  have e : b = c := by
    rw [Bool.eq_iff_iff]
    exact hp.trans (hpq.trans hq.symm)
  rw [e] at h
  simp at h
theorem tt_iff : (true = true) ↔ True := Iff.intro (fun _ => trivial) (fun _ => rfl)
theorem ff_iff : (false = true) ↔ False := Iff.intro (fun h => Bool.noConfusion h) False.elim
theorem not_iff_of {b : Bool} {p : Prop} (h : b = true ↔ p) : (!b) = true ↔ ¬ p := by
  rw [← h]; cases b <;> simp

def aggB (P : Program) (t : TypeId) : Option Bool :=
  match P.underlying t with
  | some (.struct _) => some true
  | some (.array _ _) => some true
  | some _ => some false
  | none => none

def partB (P : Program) (t : TypeId) (cs : Array Value) (off : Nat) : Option Value :=
  match aggB P t, P.info? t with
  | some true, some i => some (.agg (cs.extract off (off + i.size)))
  | some false, _ => cs[off]?
  | _, _ => none

theorem run_part {P : Program} {t : TypeId} {cs : Array Value} {off : Nat} {v : Value} (h : partB P t cs off = some v) (w : World) : (part t cs off).run P w = .ok v w := by
  unfold partB at h
  split at h
  · rename_i i ha hi
    cases h
    have hag : (isAgg t).run P w = .ok true w := by
      unfold aggB at ha
      unfold isAgg
      split at ha
      · rename_i hu; rw [Sem.run_bind, run_underlying hu]; rfl
      · rename_i hu; rw [Sem.run_bind, run_underlying hu]; rfl
      · simp at ha
      · cases ha
    unfold part
    rw [Sem.run_bind, hag]
    simp [sizeOf, typeInfo, hi]
  · rename_i ha
    have hag : (isAgg t).run P w = .ok false w := by
      unfold aggB at ha
      unfold isAgg
      split at ha
      · simp at ha
      · simp at ha
      · rename_i d h1 h2 hu
        rw [Sem.run_bind, run_underlying hu]
        cases d <;> first | rfl | exact (h1 _ rfl).elim | exact (h2 _ _ rfl).elim
      · cases ha
    unfold part
    rw [Sem.run_bind, hag]
    simp [h]
  · cases h

/-- the fields' equalities, one behind the other. -/
def eqFsB (P : Program) (rec : TypeId → Value → Value → Option Bool) (xs ys : Array Value) : List Field → Option Bool
  | [] => some true
  | f :: fs =>
    match f.name == "_" with
    | true => none
    | false => match partB P f.type xs f.offset, partB P f.type ys f.offset with
      | some a, some b => match rec f.type a b, eqFsB P rec xs ys fs with
        | some r, some s => some (r && s)
        | _, _ => none
      | _, _ => none

def eqAsB (P : Program) (rec : TypeId → Value → Value → Option Bool) (e : TypeId) (n : Nat) (xs ys : Array Value) : List Nat → Option Bool
  | [] => some true
  | i :: is =>
    match partB P e xs (i * n), partB P e ys (i * n) with
    | some a, some b => match rec e a b, eqAsB P rec e n xs ys is with
      | some r, some s => some (r && s)
      | _, _ => none
    | _, _ => none

def eqB (P : Program) : Nat → TypeId → Value → Value → Option Bool
  | 0, _, _, _ => none
  | d + 1, t, x, y =>
    match P.underlying t, x, y with
    | some .bool, .bool a, .bool b => some (a == b)
    | some (.int _), .int k a, .int k' b => match decide (k = k') with
      | true => some (a == b)
      | false => none
    | some .string, .string a, .string b => some (a == b)
    | some (.struct fields), .agg xs, .agg ys => match P.stoodInHeld t with
      | true => none
      | false => eqFsB P (eqB P d) xs ys fields.toList
    | some (.array len e), .agg xs, .agg ys => match P.info? e with
      | some i => eqAsB P (eqB P d) e i.size xs ys (List.range' 0 len)
      | none => none
    | _, _, _ => none

theorem run_eqFs {P : Program} {d : Nat} (ih : ∀ (t : TypeId) (x y : Value) (b : Bool), eqB P d t x y = some b → ∀ w, (Op.equalIn d t x y).run P w = .ok b w) (xs ys : Array Value) (w : World) :
    ∀ (fs : List Field) (b : Bool), eqFsB P (eqB P d) xs ys fs = some b → (Op.eqFields d xs ys fs).run P w = .ok b w
  | [], b, h => by cases h; simp [Op.eqFields]
  | f :: fs, b, h => by
    simp only [eqFsB] at h
    split at h
    · cases h
    · rename_i hn
      have hn' : f.name ≠ "_" := by simpa using hn
      split at h
      · rename_i a b' ha hb
        split at h
        · rename_i r s hr hs
          cases h
          simp only [Op.eqFields, if_pos hn', Sem.run_bind, run_part ha, run_part hb, ih _ _ _ _ hr, Result.andThen_ok]
          cases r
          · simp
          · simpa using run_eqFs ih xs ys w fs s hs
        · cases h
      · cases h

theorem run_eqB {P : Program} : ∀ (d : Nat) (t : TypeId) (x y : Value) (b : Bool), eqB P d t x y = some b → ∀ w, (Op.equalIn d t x y).run P w = .ok b w
  | 0, _, _, _, _, h, _ => by simp [eqB] at h
  | d + 1, t, x, y, b, h, w => by
    simp only [eqB] at h
    split at h
    · rename_i hu; cases h; simp [Op.equalIn, run_underlying hu]
    · rename_i hu
      split at h
      · rename_i hk; cases h; simp [Op.equalIn, run_underlying hu, of_decide_eq_true hk]
      · cases h
    · rename_i hu; cases h; simp [Op.equalIn, run_underlying hu]
    · rename_i fields xs ys hu
      split at h
      · cases h
      · rename_i hp
        have hf : P.fieldsOf t = fields := by simp [Program.fieldsOf, hu]
        rw [run_equalIn_struct (P := P) w d t xs ys (by rw [hf]; exact hu) hp, hf]
        exact run_eqFs (run_eqB d) xs ys w _ _ h
    · rename_i len e xs ys hu
      split at h
      · rename_i i hi
        have hsz : (sizeOf e).run P w = .ok i.size w := by simp [sizeOf, typeInfo, hi]
        simp only [Op.equalIn, Sem.run_bind, run_underlying hu, Result.andThen_ok, hsz]
        rw [show ([0:len] : Std.Legacy.Range) = ⟨0, len, 1, by decide⟩ from rfl]
        simp only [Std.Legacy.Range.forIn_eq_forIn_range', Std.Legacy.Range.size]
        have e1 : (len - 0 + 1 - 1) / 1 = len := by simp
        rw [e1]
        generalize List.range' 0 len = is at h ⊢
        clear e1
        induction is generalizing b with
        | nil => cases h; simp
        | cons j is ihs =>
          simp only [eqAsB] at h
          split at h
          · rename_i a b' ha hb
            split at h
            · rename_i r s hr hs
              cases h
              simp only [List.forIn_cons, Sem.run_bind, run_part ha, run_part hb, run_eqB d _ _ _ _ hr, Result.andThen_ok]
              cases r
              · simp
              · simpa using ihs s hs
            · cases h
          · cases h
      · cases h
    · cases h

section
variable {M : Bool} {P : Program} {ops : Array Oper} {i : Nat} {s : Fs} {w : World}

/-- '==' or '!=' of two structs: which, and what it comes to. -/
def eqQ (P : Program) (ops : Array Oper) (i : Nat) (s : Fs) : Option Bool :=
  match opQ ops i s with
  | some o => match o.op with
    | .binOp op t x y _ => match op, evS s x, evS s y, P.eqGuardType P.depth t with
      | .eql, .agg xs, .agg ys, false => eqB P 10000 t (.agg xs) (.agg ys)
      | .neq, .agg xs, .agg ys, false => (eqB P 10000 t (.agg xs) (.agg ys)).map (!·)
      | _, _, _, _ => none
    | _ => none
  | none => none

theorem runs_eq {b : Bool} (hq : eqQ P ops i s = some b) : RunsTo P ops i s w (.bool b) w := by
  unfold eqQ at hq
  split at hq
  · rename_i o ho
    split at hq
    · rename_i op t x y yt hop
      refine ⟨o, ho, ?_⟩
      split at hq
      · rename_i xs ys hx hy hg
        simp only [execOp, hop, hx, hy, Sem.run_bind, run_eqGuard_agg w _ t x y xs ys hg, Result.andThen_ok, run_eql_struct, run_eqB _ _ _ _ _ hq, Sem.run_pure]
      · rename_i xs ys hx hy hg
        simp only [Option.map_eq_some_iff] at hq
        obtain ⟨b', hb', rfl⟩ := hq
        simp only [execOp, hop, hx, hy, Sem.run_bind, run_eqGuard_agg w _ t x y xs ys hg, Result.andThen_ok, run_neq_struct, run_eqB _ _ _ _ _ hb', Sem.run_pure]
      · cases hq
    · cases hq
  · cases hq
end
end Go.Proofs.YthimamnblklkbaaDoor
