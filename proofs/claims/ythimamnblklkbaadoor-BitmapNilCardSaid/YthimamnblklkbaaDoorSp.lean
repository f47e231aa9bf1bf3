/- Maps from int to uint64, whole rows, rows that are written, made slices. -/
import Derived.Test.YthimamnblklkbaaDoorSm
namespace Go.Proofs.YthimamnblklkbaaDoor
open Go Go.RowKit

/-! ### a map of numbers -/
/-- what a list of writes says of a place. -/
def vlook (l : List (Int × Int)) (k : Int) : Option Int := (l.find? (fun p => p.1 == k)).map (·.2)
/-- a write put: where it is there already, else behind all. -/
def vset (l : List (Int × Int)) (k v : Int) : List (Int × Int) :=
  match vlook l k with
  | some _ => l.map fun p => if p.1 = k then (k, v) else p
  | none => l ++ [(k, v)]
/-- no place twice. -/
def Keys (l : List (Int × Int)) : Prop := (l.map (·.1)).Nodup

def entryOf (e : MapEntry) : Value × Value := (e.key, e.val)
def pairOf (p : Int × Int) : Value × Value := (.int .i64 p.1, .int .u64 p.2)

/-- A map of the call's own, its entries in the order in which they came. -/
def mapA (b : Nat) (l : List (Int × Int)) : Asn where
  P B w lf := lf = [b] ∧ B ≤ b ∧ ∃ es clock, w.heap[b]? = some (.map es clock) ∧ es.toList.map entryOf = l.map pairOf
  stable := by
    rintro B w w' lf ⟨rfl, hB, es, clock, hb, he⟩ hz h
    exact ⟨rfl, hB, es, clock, (h b (Array.getElem?_eq_some_iff.1 hb).1 (.inr (by simp))).trans hb, he⟩
  low := by
    rintro B w lf ⟨rfl, hB, es, clock, hb, he⟩ c hc
    simp only [List.mem_singleton] at hc
    subst hc
    exact ⟨hB, (Array.getElem?_eq_some_iff.1 hb).1⟩

/-- The map, in a world. -/
def MapAt (b : Nat) (l : List (Int × Int)) (w : World) : Prop := ∃ es clock, w.heap[b]? = some (.map es clock) ∧ es.toList.map entryOf = l.map pairOf

theorem findNow_pairs (k : Int) : ∀ (es : List MapEntry) (l : List (Int × Int)) (i : Nat), es.map entryOf = l.map pairOf →
    ∃ r, Instr.findNow (.int .i64) (.int .i64 k) es i = some r ∧ ((vlook l k = none ∧ r = none) ∨ ∃ v j, vlook l k = some v ∧ r = some (i + j, .int .u64 v) ∧ (es[j]?).map (·.key) = some (.int .i64 k) ∧
      (Keys l → es.length = l.length ∧ ((es.modify j fun e => { e with key := .int .i64 k, val := e.val }).map entryOf = l.map pairOf) ∧ ∀ v', (es.modify j fun e => { e with key := .int .i64 k, val := .int .u64 v' }).map entryOf = (vset l k v').map pairOf))
  | [], [], i, _ => ⟨none, rfl, .inl ⟨rfl, rfl⟩⟩
  | [], _ :: _, _, h => by simp at h
  | _ :: _, [], _, h => by simp at h
  | e :: es, p :: l, i, h => by
    simp only [List.map_cons, List.cons.injEq] at h
    obtain ⟨h1, h2⟩ := h
    simp only [entryOf, pairOf, Prod.mk.injEq] at h1
    obtain ⟨hk, hv⟩ := h1
    by_cases hp : p.1 = k
    · refine ⟨some (i, .int .u64 p.2), ?_, .inr ⟨p.2, 0, ?_, by simp, by simp [hk, hp], ?_⟩⟩
      · simp [Instr.findNow, Instr.sameNow, hk, hv, hp]
      · simp [vlook, hp]
      · intro hn
        have hlen : es.length = l.length := by have := congrArg List.length h2; simpa using this
        have hnot : ∀ q ∈ l, ¬ q.1 = k := by
          simp only [Keys, List.map_cons, List.nodup_cons, List.mem_map, not_exists, not_and] at hn
          intro q hq hqk
          exact hn.1 q hq (hqk.trans hp.symm)
        refine ⟨by simp [hlen], ?_, fun v' => ?_⟩
        · simp [List.modify, entryOf, pairOf, hv, hp, h2]
        · have hmap : l.map (fun q => if q.1 = k then (k, v') else q) = l := by
            refine (List.map_congr_left fun q hq => ?_).trans (List.map_id l)
            rw [if_neg (hnot q hq)]; rfl
          have e1 : vset (p :: l) k v' = (k, v') :: l := by
            simp only [vset, vlook, List.find?_cons, hp, beq_self_eq_true, Option.map_some, List.map_cons, if_true, hmap]
          rw [e1]
          simp [List.modify, entryOf, pairOf, h2]
    · obtain ⟨r, hr, hh⟩ := findNow_pairs k es l (i + 1) h2
      have hne : (k == p.1) = false := by simp; exact fun h => hp h.symm
      refine ⟨r, ?_, ?_⟩
      · simp only [Instr.findNow, Instr.sameNow, hk, if_true, hne]
        exact hr
      · have hl : vlook (p :: l) k = vlook l k := by
          have : (p.1 == k) = false := by simp [hp]
          simp [vlook, this]
        rcases hh with ⟨a, b⟩ | ⟨v, j, a, b, c, d⟩
        · exact .inl ⟨hl.trans a, b⟩
        · refine .inr ⟨v, j + 1, hl.trans a, by rw [b]; congr 2; omega, by simpa using c, fun hn => ?_⟩
          have hn' : Keys l := by simp only [Keys, List.map_cons, List.nodup_cons] at hn; exact hn.2
          obtain ⟨d1, d2, d3⟩ := d hn'
          refine ⟨by simp [d1], ?_, fun v' => ?_⟩
          · simp only [List.modify_succ_cons, List.map_cons, d2]
            simp [entryOf, pairOf, hk, hv]
          · simp only [List.modify_succ_cons, List.map_cons, d3 v']
            have e1 : vset (p :: l) k v' = p :: vset l k v' := by
              simp only [vset, hl, a]
              simp [hp]
            rw [e1]
            simp [entryOf, pairOf, hk, hv]

section
variable {M : Bool} {P : Program} {ops : Array Oper} {i : Nat} {s : Fs} {w : World} {K : Fs → World → Prop}

/-- m[k] with ok: the map and the key. -/
def lookQ (P : Program) (ops : Array Oper) (i : Nat) (s : Fs) : Option (Nat × Int × Bool) :=
  match opQ ops i s with
  | some o => match o.op with
    | .lookup t x y ok => match P.underlying t, evS s x, evS s y with
      | some (.map kt et), .map (some b), .int .i64 k => match P.underlying kt, P.info? et with
        | some (.int .i64), some f => match f.zero with
          | some (.int .u64 0) => some (b, k, ok)
          | _ => none
        | _, _ => none
      | _, _, _ => none
    | _ => none
  | none => none

theorem run_checkKey (P : Program) (e : Bool) (kt : TypeId) (q : IntKind) (v : Value) (w : World) (h : P.underlying kt = some (.int q)) : (Instr.checkKey e 10000 kt v).run P w = .ok () w := by
  unfold Instr.checkKey
  rw [Sem.run_bind, run_underlying h]
  simp only [Result.andThen_ok]
  cases v <;> rfl

theorem runs_lookup {b : Nat} {k : Int} {ok : Bool} {l : List (Int × Int)} (hm : MapAt b l w) (hq : lookQ P ops i s = some (b, k, ok)) :
    RunsTo P ops i s w (match ok with | true => .tuple #[.int .u64 ((vlook l k).getD 0), .bool (vlook l k).isSome] | false => .int .u64 ((vlook l k).getD 0)) w := by
  unfold lookQ at hq
  split at hq
  · rename_i o ho
    split at hq
    · rename_i t x y ok' hop
      split at hq
      · rename_i kt et b' k' hu hx hy
        split at hq
        · rename_i f hkt hf
          split at hq
          · rename_i hz
            simp only [Option.some.injEq, Prod.mk.injEq] at hq
            obtain ⟨rfl, rfl, rfl⟩ := hq
            obtain ⟨es, clock, hb, he⟩ := hm
            obtain ⟨r, hr, hh⟩ := findNow_pairs k' es.toList l 0 he
            refine ⟨_, ho, ?_⟩
            have hzv : (zeroValue et).run P w = .ok (.int .u64 0) w := by simp [zeroValue, typeInfo, hf, hz]
            have hget : (getObj b').run P w = .ok (.map es clock) w := by simp [getObj, Sem.run, hb]
            have hfind : (Instr.findKey kt (.int .i64 k') es.toList).run P w = .ok r w := by
              unfold Instr.findKey
              rw [Sem.run_bind, run_underlying hkt]
              simp only [Result.andThen_ok, hr]
              rfl
            simp only [execOp, hop, hx, hy, Instr.lookup, Sem.run_bind, Sem.run_pure, Result.andThen_ok, run_underlying hu, hget, run_checkKey P _ kt .i64 _ w hkt, hfind]
            rcases hh with ⟨h1, rfl⟩ | ⟨v, j, h1, rfl, _, _⟩
            · simp only [Sem.run_bind, Sem.run_pure, Result.andThen_ok, hzv, h1]
              cases ok' <;> rfl
            · simp only [Sem.run_bind, Sem.run_pure, Result.andThen_ok, h1]
              cases ok' <;> rfl
          · cases hq
        · cases hq
      · cases hq
    · cases hq
  · cases hq

/-- m[k] = v: the map, the key, the value. -/
def mapQ (P : Program) (ops : Array Oper) (i : Nat) (s : Fs) : Option (Nat × Int × Int) :=
  match opQ ops i s with
  | some o => match o.op with
    | .mapUpdate t x y z => match P.underlying t, evS s x, evS s y, evS s z with
      | some (.map kt _), .map (some b), .int .i64 k, .int .u64 v => match P.underlying kt with
        | some (.int .i64) => some (b, k, v)
        | _ => none
      | _, _, _, _ => none
    | _ => none
  | none => none

theorem ops_mapUpdate {B : Nat} {w0 : World} {l0 : List Nat} {R : List Asn} {b : Nat} {k v : Int} {l : List (Int × Int)} (hs : St B w0 l0 w (mapA b l :: R)) (hn : Keys l)
    (hq : mapQ P ops i s = some (b, k, v)) (hk : ∀ w', St B w0 l0 w' (mapA b (vset l k v) :: R) → OpsAt M P ops (i + 1) (putS s (dstOf ops i) undef) w' K) : OpsAt M P ops i s w K := by
  unfold mapQ at hq
  split at hq
  · rename_i o ho
    split at hq
    · rename_i t x y z hop
      split at hq
      · rename_i kt vt b' k' v' hu hx hy hv
        split at hq
        · rename_i hkt
          simp only [Option.some.injEq, Prod.mk.injEq] at hq
          obtain ⟨rfl, rfl, rfl⟩ := hq
          have hb' : ∃ es clock, w.heap[b']? = some (.map es clock) ∧ es.toList.map entryOf = l.map pairOf := by
            obtain ⟨_, sep⟩ := hs.sep
            obtain ⟨_, _, ⟨_, _, h⟩, _⟩ := sep
            exact h
          obtain ⟨es, clock, hb, he⟩ := hb'
          obtain ⟨r, hr, hh⟩ := findNow_pairs k' es.toList l 0 he
          have hget : (getObj b').run P w = .ok (.map es clock) w := by simp [getObj, Sem.run, hb]
          have hfind : (Instr.findKey kt (.int .i64 k') es.toList).run P w = .ok r w := by
            unfold Instr.findKey
            rw [Sem.run_bind, run_underlying hkt]
            simp only [Result.andThen_ok, hr]
            rfl
          have hset : ∀ o' : Obj, (setObj b' o').run P w = .ok () { w with heap := w.heap.setIfInBounds b' o' } := by
            intro o'; simp [setObj, Sem.run, hb]
          have hlt : b' < w.heap.size := (Array.getElem?_eq_some_iff.1 hb).1
          have hupd : ∀ (es' : Array MapEntry) (c' : Nat), es'.toList.map entryOf = (vset l k' v').map pairOf → St B w0 l0 { w with heap := w.heap.setIfInBounds b' (.map es' c') } (mapA b' (vset l k' v') :: R) := by
            intro es' c' he'
            refine St.step1 (post := [mapA b' (vset l k' v')]) hs ?_
            rintro lf ⟨rfl, hB, _⟩
            refine ⟨[b'], ⟨[b'], [], ⟨rfl, hB, es', c', ?_, he'⟩, fun b => by simp, fun b _ => by simp, by simp⟩, rfl, rfl, rfl, by simp, ?_, fun b h => .inl h⟩
            · simp [hlt]
            · intro b hbl hne
              simp only [List.mem_singleton] at hne
              simp only [Array.getElem?_setIfInBounds]
              rw [if_neg (fun e => hne e.symm)]
          rcases hh with ⟨h1, rfl⟩ | ⟨v0, j, h1, rfl, hj, hd⟩
          · refine ops_runs0 ho (w' := { w with heap := w.heap.setIfInBounds b' (.map (es.push { key := .int .i64 k', val := .int .u64 v', born := clock }) (clock + 1)) }) ?_ (hk _ (hupd _ _ ?_))
            · simp only [execOp, hop, hx, hy, hv, Instr.mapUpdate, Sem.run_bind, Sem.run_pure, Result.andThen_ok, run_underlying hu, hget, run_checkKey P _ kt .i64 _ w hkt, hfind, hset]
            · simp only [vset, h1, Array.toList_push, List.map_append, he, List.map_cons, List.map_nil]
              rfl
          · simp only [Nat.zero_add] at *
            have hkey : ((es[j]?).map (·.key)).getD (.int .i64 k') = .int .i64 k' := by
              have : es[j]? = es.toList[j]? := by simp
              rw [this, hj]; rfl
            refine ops_runs0 ho (w' := { w with heap := w.heap.setIfInBounds b' (.map (es.modify j fun e => { e with key := .int .i64 k', val := .int .u64 v' }) clock) }) ?_ (hk _ (hupd _ _ ?_))
            · have hstay : (Instr.keyThatStays (.int .i64 k') (.int .i64 k')).run P w = .ok (.int .i64 k') w := by
                unfold Instr.keyThatStays
                rw [if_pos (by simp [Instr.sameBits])]
                rfl
              simp only [execOp, hop, hx, hy, hv, Instr.mapUpdate, Sem.run_bind, Sem.run_pure, Result.andThen_ok, run_underlying hu, hget, run_checkKey P _ kt .i64 _ w hkt, hfind, hkey, hstay, hset]
            · obtain ⟨_, _, d3⟩ := hd hn
              rw [← d3 v']
              simp
        · cases hq
      · cases hq
    · cases hq
  · cases hq

/-- clear(m). -/
def clearQ (P : Program) (ops : Array Oper) (i : Nat) (s : Fs) : Option Nat :=
  match opQ ops i s with
  | some o => match o.op with
    | .call { callee := .builtin .clear, args := ⟨[x]⟩, argTypes := ⟨[t]⟩ } => match P.underlying t, evS s x with
      | some (.map _ _), .map (some b) => some b
      | _, _ => none
    | _ => none
  | none => none

theorem ops_clear {B : Nat} {w0 : World} {l0 : List Nat} {R : List Asn} {b : Nat} {l : List (Int × Int)} (hs : St B w0 l0 w (mapA b l :: R))
    (hq : clearQ P ops i s = some b) (hk : ∀ w', St B w0 l0 w' (mapA b [] :: R) → OpsAt M P ops (i + 1) (putS s (dstOf ops i) (.tuple #[])) w' K) : OpsAt M P ops i s w K := by
  unfold clearQ at hq
  split at hq
  · rename_i o ho
    split at hq
    · rename_i x t hop
      split at hq
      · rename_i kt vt b' hu hx
        simp only [Option.some.injEq] at hq
        subst hq
        have hb' : ∃ es clock, w.heap[b']? = some (.map es clock) := by
          obtain ⟨_, sep⟩ := hs.sep
          obtain ⟨_, _, ⟨_, _, es, clock, h, _⟩, _⟩ := sep
          exact ⟨es, clock, h⟩
        obtain ⟨es, clock, hb⟩ := hb'
        have hget : (getObj b').run P w = .ok (.map es clock) w := by simp [getObj, Sem.run, hb]
        have hset : ∀ o' : Obj, (setObj b' o').run P w = .ok () { w with heap := w.heap.setIfInBounds b' o' } := by
          intro o'; simp [setObj, Sem.run, hb]
        have hlt : b' < w.heap.size := (Array.getElem?_eq_some_iff.1 hb).1
        refine ops_runs ho (w' := { w with heap := w.heap.setIfInBounds b' (.map #[] clock) }) ?_ (hk _ ?_)
        · simp only [execOp, hop, resolve, invoke, builtin, Sem.run_bind, Sem.run_pure, Result.andThen_ok, List.map_toArray, List.map_cons, List.map_nil, hx, Builtin.clear_]
          simp [hget, hset, run_underlying hu]
        · refine St.step1 (post := [mapA b' []]) hs ?_
          rintro lf ⟨rfl, hB, _⟩
          refine ⟨[b'], ⟨[b'], [], ⟨rfl, hB, #[], clock, ?_, rfl⟩, fun b => by simp, fun b _ => by simp, by simp⟩, rfl, rfl, rfl, by simp, ?_, fun b h => .inl h⟩
          · simp [hlt]
          · intro b hbl hne
            simp only [List.mem_singleton] at hne
            simp only [Array.getElem?_setIfInBounds]
            rw [if_neg (fun e => hne e.symm)]
      · cases hq
    · cases hq
  · cases hq
end
end Go.Proofs.YthimamnblklkbaaDoor
