/- Kinds of slices' elements; rows of them: read, written, appended to. -/
import Derived.Test.YthimamnblklkbaaDoorSd
namespace Go.Proofs.YthimamnblklkbaaDoor
open Go Go.RowKit

/-- An element type: its number, how many cells, an element's cells. -/
structure Kind (α : Type) where
  e : TypeId
  size : Nat
  elem : α → List Value
  pos : 0 < size
  elen : ∀ x, (elem x).length = size
  eone : ∀ x, (elem x).all Value.oneCell' = true

section
variable {α : Type} (K : Kind α)

def Kind.cells (l : List α) : List Value := l.flatMap K.elem
def Kind.row (a : Option Addr) (c : Nat) (l : List α) : Asn := rowA K.e K.size (.slice a l.length c) l.length (K.cells l)
def Kind.low (a : Option Addr) (l : List α) : Asn := lowA a (K.cells l)

theorem Kind.cells_cons (x : α) (l : List α) : K.cells (x :: l) = K.elem x ++ K.cells l := by simp [Kind.cells]
theorem Kind.cells_append (l m : List α) : K.cells (l ++ m) = K.cells l ++ K.cells m := by simp [Kind.cells]
theorem Kind.length : ∀ l : List α, (K.cells l).length = l.length * K.size
  | [] => by simp [Kind.cells]
  | x :: l => by rw [K.cells_cons, List.length_append, K.elen, Kind.length l, List.length_cons, Nat.add_mul, Nat.one_mul, Nat.add_comm]
theorem Kind.one (l : List α) : ∀ u ∈ K.cells l, u.oneCell' = true := by
  intro u hu
  simp only [Kind.cells, List.mem_flatMap] at hu
  obtain ⟨x, _, hx⟩ := hu
  exact List.all_eq_true.1 (K.eone x) u hx
theorem Kind.get : ∀ {l : List α} {k j : Nat} (d : α), k < l.length → j < K.size → (K.cells l)[k * K.size + j]? = (K.elem (l.getD k d))[j]?
  | x :: l, 0, j, d, _, hj => by
    rw [K.cells_cons, Nat.zero_mul, Nat.zero_add, List.getElem?_append_left (by rw [K.elen]; exact hj)]
    rfl
  | x :: l, k + 1, j, d, hk, hj => by
    rw [K.cells_cons, List.getElem?_append_right (by rw [K.elen, Nat.add_mul]; omega)]
    have e : (k + 1) * K.size + j - (K.elem x).length = k * K.size + j := by rw [K.elen, Nat.add_mul]; omega
    rw [e, Kind.get d (by simpa using hk) hj]
    simp
theorem Kind.addr {a : Option Addr} {l : List α} {w : World} (h : CellsAt a (K.cells l) w) {k : Nat} (hk : k < l.length) : ∃ ad, a = some ad := by
  refine cells_some h ?_
  intro e
  have h1 := K.length l
  rw [e] at h1
  have h2 : 0 < l.length * K.size := Nat.mul_pos (by omega) K.pos
  simp at h1
  omega
/-- one cell of element k. -/
theorem Kind.at {a : Option Addr} {l : List α} {w : World} (h : CellsAt a (K.cells l) w) {k : Nat} (hk : k < l.length) (d : α) (j : Nat) {v : Value} (hv : (K.elem (l.getD k d))[j]? = some v) : w.cell? ((adr a (k * K.size)).add j) = some v := by
  have hj : j < K.size := by rw [← K.elen (l.getD k d)]; exact (List.getElem?_eq_some_iff.1 hv).1
  rw [adr_add]
  exact cells_get h (by rw [K.get d hk hj]; exact hv)
/-- some cells of element k, from cell o on. -/
theorem Kind.all {a : Option Addr} {l : List α} {w : World} (h : CellsAt a (K.cells l) w) {k : Nat} (hk : k < l.length) (d : α) (o : Nat) {cs : List Value} (hc : ((K.elem (l.getD k d)).drop o).take cs.length = cs) :
    ∀ j v, cs[j]? = some v → w.cell? (((adr a (k * K.size)).add o).add j) = some v := by
  intro j v hv
  rw [add_add]
  refine K.at h hk d (o + j) ?_
  rw [← hc, List.getElem?_take] at hv
  split at hv
  · simpa [List.getElem?_drop] using hv
  · cases hv

theorem Kind.writeAt_app : ∀ (vs a b : List Value) (off : Nat), writeAt (a ++ b) (a.length + off) vs = a ++ writeAt b off vs
  | [], _, _, _ => rfl
  | v :: r, a, b, off => by
    rw [writeAt, writeAt, List.set_append_right _ _ (by omega), show a.length + off - a.length = off by omega, Nat.add_assoc, Kind.writeAt_app r]
theorem Kind.writeAt_left : ∀ (vs a b : List Value) (off : Nat), off + vs.length ≤ a.length → writeAt (a ++ b) off vs = writeAt a off vs ++ b
  | [], _, _, _, _ => rfl
  | v :: r, a, b, off, h => by
    simp only [List.length_cons] at h
    rw [writeAt, writeAt, List.set_append_left _ _ (by omega), Kind.writeAt_left r _ _ _ (by simp; omega)]

theorem Kind.set : ∀ {l : List α} {k : Nat} (d : α) (j : Nat) {vs : List Value} (y : α), k < l.length → j + vs.length ≤ K.size → K.elem y = writeAt (K.elem (l.getD k d)) j vs →
    writeAt (K.cells l) (k * K.size + j) vs = K.cells (l.set k y)
  | x :: l, 0, d, j, vs, y, _, hj, hy => by
    rw [K.cells_cons, Nat.zero_mul, Nat.zero_add, Kind.writeAt_left _ _ _ _ (by rw [K.elen]; exact hj)]
    rw [List.set_cons_zero, K.cells_cons, hy]
    rfl
  | x :: l, k + 1, d, j, vs, y, hk, hj, hy => by
    have e : (k + 1) * K.size + j = (K.elem x).length + (k * K.size + j) := by rw [K.elen, Nat.add_mul]; omega
    rw [K.cells_cons, e, Kind.writeAt_app, Kind.set d j y (by simpa using hk) hj (by simpa using hy), List.set_cons_succ, K.cells_cons]
end

section
variable {α : Type} (K : Kind α) {M : Bool} {P : Program} {ops : Array Oper} {i : Nat} {s : Fs} {w : World} {Q : Fs → World → Prop} {B : Nat} {w0 : World} {l0 : List Nat} {H R : List Asn}

theorem St.kcells (hs : St B w0 l0 w H) (j : Nat) {a : Option Addr} {c : Nat} {l : List α} (hj : H[j]? = some (K.row a c l)) : CellsAt a (K.cells l) w := hs.cells j hj

theorem St.capnil (hs : St B w0 l0 w H) (j : Nat) {a : Option Addr} {c : Nat} {l : List α} (hj : H[j]? = some (K.row a c l)) : a = none → c = 0 := (hs.rowLen j hj).2.2.1

theorem St.knil (hs : St B w0 l0 w R) : St B w0 l0 w (K.row none 0 [] :: R) := St.row_nil hs K.e K.size

theorem St.kblk {b : Nat} {cs : List Value} {e : TypeId} (l : List α) (hs : St B w0 l0 w (blk b (.cells cs.toArray e (0, 0)) :: R)) (he : e = K.e) (hc : cs = K.cells l) (hm : l.length ≤ maxLen) :
    St B w0 l0 w (K.row (some ⟨b, 0, none⟩) l.length l :: R) := by
  subst he hc
  exact St.row_of_blk hs (K.length l) hm

theorem ops_appendK {bytes : Nat} {a a' : Option Addr} {c c' : Nat} {l m : List α} (hs : St B w0 l0 w (K.row a c l :: R)) (hq : appQ P ops i s K.e = some ((a, l.length, c), (a', m.length, c'), K.size, bytes))
    (hc : a' = none → c' = 0) (hm : CellsAt a' (K.cells m) w) (h63 : l.length + m.length ≤ maxLen) (hb : (l.length + m.length) * bytes ≤ 140737488355328)
    (hk : ∀ a'' c'' w', St B w0 l0 w' (K.row a'' c'' (l ++ m) :: R) → OpsAt M P ops (i + 1) (putS s (dstOf ops i) (.slice a'' (l ++ m).length c'')) w' Q) : OpsAt M P ops i s w Q := by
  refine ops_append (xs := K.cells l) (news := K.cells m) hs hq hc (K.length m) hm (K.one m) h63 hb ?_
  intro a'' c'' w' hs'
  have h := hk a'' c'' w'
  rw [List.length_append] at h
  refine h ?_
  unfold Kind.row
  rw [List.length_append, K.cells_append]
  exact hs'

/-- a store into element k of a row, its cells from j on. -/
theorem ops_storeK {a : Option Addr} {c k j : Nat} {l : List α} {vs : List Value} (d y : α) (hs : St B w0 l0 w (K.row a c l :: R)) (hkl : k < l.length) (hj : j + vs.length ≤ K.size) (h0 : vs ≠ []) (hv : vs.all Value.oneCell' = true)
    (hy : K.elem y = writeAt (K.elem (l.getD k d)) j vs) (hq : storeQ P ops i s = some ((adr a (k * K.size)).add j, vs))
    (hk : ∀ w', St B w0 l0 w' (K.row a c (l.set k y) :: R) → OpsAt M P ops (i + 1) (putS s (dstOf ops i) undef) w' Q) : OpsAt M P ops i s w Q := by
  rw [adr_add] at hq
  refine ops_storeRow hs hq ?_ h0 hv ?_
  · rw [K.length]
    have : (k + 1) * K.size ≤ l.length * K.size := Nat.mul_le_mul_right _ hkl
    rw [Nat.add_mul] at this
    omega
  · intro w' hs'
    refine hk w' ?_
    unfold Kind.row
    rw [List.length_set, ← K.set d j y hkl hj hy]
    exact hs'

theorem St.take {H : List Asn} (h : St B w0 l0 w (H ++ R)) : St B w0 l0 w H := by
  obtain ⟨a, b, l, s, u⟩ := h
  obtain ⟨l1, l2, s1, _, _, hm⟩ := Sep.append.1 s
  exact ⟨a, b, l1, s1, u.sub fun b hb => (hm b).2 (.inl hb)⟩

theorem St.mapAt (hs : St B w0 l0 w H) (j : Nat) {b : Nat} {l : List (Int × Int)} (hj : H[j]? = some (mapA b l)) : MapAt b l w := by
  obtain ⟨lf, sep⟩ := hs.sep
  clear hs
  induction H generalizing j lf with
  | nil => simp at hj
  | cons A H ih =>
    obtain ⟨l1, l2, h1, h2, _, _⟩ := sep
    cases j with
    | zero =>
      simp only [List.getElem?_cons_zero, Option.some.injEq] at hj
      subst hj
      exact h1.2.2
    | succ j => exact ih j (by simpa using hj) l2 h2

theorem St.oldMap {b : Nat} {l : List (Int × Int)} (hs : St B w0 [] w H) (h : MapAt b l w0) : MapAt b l w := by
  obtain ⟨es, clock, hb, he⟩ := h
  exact ⟨es, clock, hs.old hb, he⟩

theorem St.oldBelow (hs : St B w0 [] w H) : Below w0.heap.size w0 w := by
  obtain ⟨_, _, l, _, u⟩ := hs
  exact ⟨u.os, u.tape, u.output, u.size, fun k hk => u.block k hk (by simp)⟩


theorem perm_last (A : Asn) (H : List Asn) : (A :: H).Perm (H ++ [A]) := (List.perm_append_singleton A H).symm

theorem bnot_true {b : Bool} (h : (!b) = true) : b = false := by simpa using h
theorem bnot_false {b : Bool} (h : (!b) = false) : b = true := by simpa using h

theorem eq_bool_of {v : Value} {x y : Bool} (h : v = .bool x) (e : x = y) : v = .bool y := by rw [h, e]

theorem ops_makeMap (hs : St B w0 l0 w R) (hq : valQ P ops i s w = some (.map (some w.heap.size), w.alloc (.map #[] 0))) (hk : ∀ b w', St B w0 l0 w' (mapA b [] :: R) → OpsAt M P ops (i + 1) (putS s (dstOf ops i) (.map (some b))) w' Q) : OpsAt M P ops i s w Q := by
  refine ops_new (fun b => .map (some b)) (.map #[] 0) hs hq fun b w' hs' => hk b w' ?_
  refine St.conv hs' ?_
  rintro l _ ⟨h1, h2, rfl⟩
  exact ⟨rfl, h1, #[], 0, h2, rfl⟩

/-- cells of a known block, from one on. -/
theorem cells_sub {b off : Nat} {cs ds : List Value} {t : TypeId} {fr : Nat × Nat} (h : w.heap[b]? = some (.cells cs.toArray t fr)) (hd : (cs.drop off).take ds.length = ds) : ∀ j v, ds[j]? = some v → w.cell? ((⟨b, off, none⟩ : Addr).add j) = some v := by
  intro j v hv
  have hadd : (⟨b, off, none⟩ : Addr).add j = ⟨b, off + j, none⟩ := by unfold Addr.add; split <;> simp_all
  rw [hadd]
  refine cell_of_blk h ?_
  rw [← hd, List.getElem?_take] at hv
  split at hv
  · simpa [List.getElem?_drop] using hv
  · cases hv

/-- a whole block, as a slice's cells. -/
theorem cells_blk {b : Nat} {cs : List Value} {t : TypeId} {fr : Nat × Nat} (h : w.heap[b]? = some (.cells cs.toArray t fr)) : CellsAt (some ⟨b, 0, none⟩) cs w := by
  refine cells_sub (off := 0) h ?_
  simp

theorem ret_ofN {fn : Func} {T : Value → World → Prop} {s : Fs} {w : World} (v : Value) (h : (resS fn s).run P w = .ok v w) (hR : T v w) : retQ P fn T .normal s w := leave_of h hR

theorem St.entAt {A : Asn} {F : World → Prop} (hs : St B w0 l0 w H) (j : Nat) (hj : H[j]? = some A) (hA : ∀ {B : Nat} {w : World} {l : List Nat}, A.P B w l → F w) : F w := by
  obtain ⟨lf, sep⟩ := hs.sep
  clear hs
  induction H generalizing j lf with
  | nil => simp at hj
  | cons A' H ih =>
    obtain ⟨l1, l2, h1, h2, _, _⟩ := sep
    cases j with
    | zero =>
      simp only [List.getElem?_cons_zero, Option.some.injEq] at hj
      subst hj
      exact hA h1
    | succ j => exact ih j (by simpa using hj) l2 h2

/-- A function that owns nothing. -/
theorem spec_Q {f : FuncId} {fn : Func} {c : Code} {args : Array Value} {post : Value → List Asn → Prop} (hf : P.funcs[f]? = some fn) (hb : fn.body = some c)
    (h : St B w [] w [] → W P c (initF fn.ntmps args) w (retQ P fn fun v w' => ∃ H', post v H' ∧ St B w [] w' H')) : Spec P f args B w [] post := by
  intro l hB hs
  have hl : l = [] := List.eq_nil_iff_forall_not_mem.2 hs
  subst hl
  refine (calls_W hf hb (h (St.begin hB hs))).mono ?_
  rintro e w' ⟨v, rfl, H', hp, _, _, l', hs', hu⟩
  exact ⟨v, rfl, H', l', hp, hs', hu⟩
end
end Go.Proofs.YthimamnblklkbaaDoor
