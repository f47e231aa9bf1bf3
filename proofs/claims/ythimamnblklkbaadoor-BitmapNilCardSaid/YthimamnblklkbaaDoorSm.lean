/- More operations on chunks: append, the map of a view, slices' elements. -/
import Derived.Test.YthimamnblklkbaaDoorSl
namespace Go.Proofs.YthimamnblklkbaaDoor
open Go Go.RowKit

/-! ### numbers -/
theorem wrap_i64 {z : Int} (h1 : -9223372036854775808 ≤ z) (h2 : z ≤ 9223372036854775807) : IntKind.i64.wrap z = z := by
  have e : (2 : Int) ^ IntKind.i64.bits = 18446744073709551616 := by decide
  have e' : (2 : Int) ^ (IntKind.i64.bits - 1) = 9223372036854775808 := by decide
  unfold IntKind.wrap
  simp only [e, e', IntKind.signed, Bool.true_and, decide_eq_true_eq]
  split <;> omega

theorem wrap_u64 {z : Int} (h1 : 0 ≤ z) (h2 : z < 18446744073709551616) : IntKind.u64.wrap z = z := by
  have e : (2 : Int) ^ IntKind.u64.bits = 18446744073709551616 := by decide
  unfold IntKind.wrap
  simp only [e, IntKind.signed, Bool.false_and, Bool.false_eq_true, if_false]
  omega

theorem wrap_u64_mod (z : Int) : IntKind.u64.wrap z = z % 18446744073709551616 := by
  have e : (2 : Int) ^ IntKind.u64.bits = 18446744073709551616 := by decide
  unfold IntKind.wrap
  simp only [e, IntKind.signed, Bool.false_and, Bool.false_eq_true, if_false]

theorem wrap_u8 {z : Int} (h1 : 0 ≤ z) (h2 : z < 256) : IntKind.u8.wrap z = z := by
  have e : (2 : Int) ^ IntKind.u8.bits = 256 := by decide
  unfold IntKind.wrap
  simp only [e, IntKind.signed, Bool.false_and, Bool.false_eq_true, if_false]
  omega

/-! ### where an element stands -/
/-- cell number k behind a slice's address. -/
def adr (a : Option Addr) (k : Nat) : Addr := (a.getD ⟨0, 0, none⟩).add k

theorem add_add (ad : Addr) (j k : Nat) : (ad.add j).add k = ad.add (j + k) := by
  unfold Addr.add
  by_cases hj : j = 0
  · subst hj; simp
  · by_cases hk : k = 0
    · subst hk; simp
    · rw [if_neg hj, if_neg hk, if_neg (by omega)]
      simp [Nat.add_assoc]

theorem adr_add (a : Option Addr) (j k : Nat) : (adr a j).add k = adr a (j + k) := add_add _ _ _

theorem cells_get {a : Option Addr} {cs : List Value} {w : World} (h : CellsAt a cs w) {k : Nat} {v : Value} (hv : cs[k]? = some v) : w.cell? (adr a k) = some v := by
  cases a with
  | none => simp only [CellsAt] at h; subst h; simp at hv
  | some ad => exact h k v hv

theorem cells_some {a : Option Addr} {cs : List Value} {w : World} (h : CellsAt a cs w) (hn : cs ≠ []) : ∃ ad, a = some ad := by
  cases a with
  | none => exact (hn h).elim
  | some ad => exact ⟨ad, rfl⟩

theorem cell_of_blk {w : World} {b off : Nat} {cs : List Value} {t : TypeId} {fr : Nat × Nat} {v : Value} (h : w.heap[b]? = some (.cells cs.toArray t fr)) (hv : cs[off]? = some v) : w.cell? ⟨b, off, none⟩ = some v := by
  rw [cell_of_row w b off _ t fr h]
  simpa using hv

section
variable {B : Nat} {w0 w w' : World} {l0 : List Nat} {H R : List Asn}

theorem St.heapAt (hs : St B w0 l0 w H) (j : Nat) {b : Nat} {o : Obj} (hj : H[j]? = some (blk b o)) : w.heap[b]? = some o := by
  obtain ⟨l, sep⟩ := hs.sep
  clear hs
  induction H generalizing j l with
  | nil => simp at hj
  | cons A H ih =>
    obtain ⟨l1, l2, h1, h2, _, _⟩ := sep
    cases j with
    | zero =>
      simp only [List.getElem?_cons_zero, Option.some.injEq] at hj
      subst hj
      exact h1.2.1
    | succ j => exact ih j (by simpa using hj) l2 h2

/-- a cell of the block in chunk number j. -/
theorem St.cellAt (hs : St B w0 l0 w H) (j : Nat) {b off : Nat} {cs : List Value} {t : TypeId} {fr : Nat × Nat} {v : Value} (hj : H[j]? = some (blk b (.cells cs.toArray t fr))) (hv : cs[off]? = some v) : w.cell? ⟨b, off, none⟩ = some v :=
  cell_of_blk (hs.heapAt j hj) hv

/-- What stood when a function that owns nothing began. -/
theorem St.old (hs : St B w0 [] w H) {b : Nat} {o : Obj} (h : w0.heap[b]? = some o) : w.heap[b]? = some o := by
  obtain ⟨_, _, l, _, u⟩ := hs
  rw [u.block b (Array.getElem?_eq_some_iff.1 h).1 (by simp)]
  exact h

theorem St.oldCell (hs : St B w0 [] w H) {ad : Addr} {v : Value} (h : w0.cell? ad = some v) : w.cell? ad = some v := by
  have hb := World.block_lt_of_cell? w0 ad h
  obtain ⟨_, _, l, _, u⟩ := hs
  rw [World.cell?_of_block (w := w0) (u.block ad.block hb (by simp))]
  exact h

theorem St.oldCells (hs : St B w0 [] w H) {a : Option Addr} {cs : List Value} (h : CellsAt a cs w0) : CellsAt a cs w := by
  cases a with
  | none => exact h
  | some ad => exact fun j v hv => hs.oldCell (h j v hv)
end

/-! ### slices -/
section
variable {M : Bool} {P : Program} {ops : Array Oper} {i : Nat} {s : Fs} {w w' : World} {K : Fs → World → Prop}

/-- an element's address: the slice's, its length, the index, the element's size. -/
def idxQ (P : Program) (ops : Array Oper) (i : Nat) (s : Fs) : Option (Option Addr × Nat × Int × Nat) :=
  match opQ ops i s with
  | some o => match o.op with
    | .indexAddr t x y => match P.underlying t, evS s x, evS s y with
      | some (.slice e), .slice a n _, .int _ k => match P.info? e with
        | some f => some (a, n, k, f.size)
        | none => none
      | _, _, _ => none
    | _ => none
  | none => none

theorem runs_index {a : Option Addr} {n size : Nat} {z : Int} (k : Nat) (hz : z = (k : Int)) (hk : k < n) (ha : ∃ ad, a = some ad) (hq : idxQ P ops i s = some (a, n, z, size)) :
    RunsTo P ops i s w (.pointer (some (adr a (k * size)))) w := by
  subst hz
  obtain ⟨ad, rfl⟩ := ha
  unfold idxQ at hq
  split at hq
  · rename_i o ho
    split at hq
    · rename_i t x y hop
      refine ⟨_, ho, ?_⟩
      split at hq
      · rename_i e a' n' c' k' z' hu hx hy
        split at hq
        · rename_i f hf
          simp only [Option.some.injEq, Prod.mk.injEq] at hq
          obtain ⟨rfl, rfl, rfl, rfl⟩ := hq
          have hso : (sizeOf e).run P w = .ok f.size w := by simp [sizeOf, typeInfo, hf]
          have hun := run_underlying (P := P) hu w
          have hlt : (0 : Int) ≤ (k : Int) ∧ (k : Int) < (n' : Int) := ⟨by omega, by omega⟩
          simp only [execOp, hop, hx, hy, Instr.indexAt, asIntOf, Sem.run_bind, Sem.run_pure, Result.andThen_ok, hun, hso, if_pos hlt, Int.toNat_natCast, adr, Option.getD_some]
        · cases hq
      · cases hq
    · cases hq
  · cases hq

/-- an array's element in memory: its address, how many, the index, the size. -/
def idxAQ (P : Program) (ops : Array Oper) (i : Nat) (s : Fs) : Option (Addr × Nat × Int × Nat) :=
  match opQ ops i s with
  | some o => match o.op with
    | .indexAddr t x y => match P.underlying t, evS s x, evS s y with
      | some (.array n e), .pointer (some a), .int _ k => match P.info? e with
        | some f => some (a, n, k, f.size)
        | none => none
      | _, _, _ => none
    | _ => none
  | none => none

theorem runs_indexA {ad : Addr} {n size : Nat} {z : Int} (k : Nat) (hz : z = (k : Int)) (hk : k < n) (hq : idxAQ P ops i s = some (ad, n, z, size)) :
    RunsTo P ops i s w (.pointer (some (ad.add (k * size)))) w := by
  subst hz
  unfold idxAQ at hq
  split at hq
  · rename_i o ho
    split at hq
    · rename_i t x y hop
      refine ⟨_, ho, ?_⟩
      split at hq
      · rename_i n' e a' k' z' hu hx hy
        split at hq
        · rename_i f hf
          simp only [Option.some.injEq, Prod.mk.injEq] at hq
          obtain ⟨rfl, rfl, rfl, rfl⟩ := hq
          have hso : (sizeOf e).run P w = .ok f.size w := by simp [sizeOf, typeInfo, hf]
          have hun := run_underlying (P := P) hu w
          have hlt : (0 : Int) ≤ (k : Int) ∧ (k : Int) < (n' : Int) := ⟨by omega, by omega⟩
          simp only [execOp, hop, hx, hy, Instr.indexAt, Instr.sureAddr, asIntOf, Sem.run_bind, Sem.run_pure, Result.andThen_ok, hun, hso, if_pos hlt, Int.toNat_natCast]
        · cases hq
      · cases hq
    · cases hq
  · cases hq

/-- append(x, y...): both slices. -/
def appQ (P : Program) (ops : Array Oper) (i : Nat) (s : Fs) (e : TypeId) : Option ((Option Addr × Nat × Nat) × (Option Addr × Nat × Nat) × Nat × Nat) :=
  match opQ ops i s with
  | some o => match o.op with
    | .call { callee := .builtin .append, args := ⟨[x, y]⟩, argTypes := ⟨[t, t']⟩ } => match P.underlying t, P.info? e, evS s x, evS s y with
      | some (.slice e'), some f, .slice a n c, .slice a' n' c' => match decide (e' = e), decide (t = t'), f.zero with
        | true, true, some z => match decide (z.cells.size = f.size), decide (0 < f.size) with
          | true, true => some ((a, n, c), (a', n', c'), f.size, f.bytes)
          | _, _ => none
        | _, _, _ => none
      | _, _, _, _ => none
    | _ => none
  | none => none

theorem run_append_row {P : Program} (w : World) (base : Nat) (t ty e : TypeId) (f : TypeInfo) (z : Value) (ht : P.underlying t = some (.slice e)) (hi : P.info? e = some f) (hz : f.zero = some z)
    (hzs : z.cells.size = f.size) (hsz : 0 < f.size) (v : Value) (n : Nat) (xs : List Value) (hown : w.ownsRow base e f.size v n xs)
    (a : Option Addr) (m c : Nat) (hc : a = none → c = 0) (news : List Value) (hl : news.length = m * f.size) (hnews : CellsAt a news w) (h1 : ∀ u ∈ news, u.oneCell' = true)
    (h63 : n + m ≤ maxLen) (hbytes : (n + m) * f.bytes ≤ 140737488355328) (hbase : base ≤ w.heap.size) :
    ∃ v' w', (Builtin.append_ #[t, t] ty #[v, .slice a m c]).run P w = .ok v' w' ∧ w'.ownsRow base e f.size v' (n + m) (xs ++ news) ∧ w.grownBy w' v.ownBlock ∧ (∀ b, v'.ownBlock = some b → v.ownBlock = some b ∨ w.heap.size ≤ b) := by
  cases a with
  | some ad =>
    obtain ⟨v', w', h, h', h'', _⟩ := run_append_own (P := P) w base t ty e f z f.size f.bytes ht hi hz rfl rfl hzs hsz v n xs hown ad m c news hl hnews h1 h63 hbytes hbase
    refine ⟨v', w', h, h', h'', ?_⟩
    have h64 : n + m ≤ 9223372036854775807 := by simp only [maxLen] at h63; omega
    rcases hown.2 with ⟨rfl, rfl⟩ | ⟨g, cap, cur, rfl, hbg, hg, hnc, hcm, hcs, htake⟩
    · by_cases hm : m = 0
      · subst hm
        have hn : news = [] := List.eq_nil_of_length_eq_zero (by simpa using hl)
        subst hn
        have hr : (Builtin.append_ #[t, t] ty #[.slice none 0 0, .slice (some ad) 0 c]).run P w = .ok (.slice none 0 0) w := by
          simp [Builtin.append_, run_underlying ht, sizeOf, typeInfo, hi, Builtin.lenOf, Builtin.firstCells, loadCells, loadCellsFrom]
        rw [hr] at h
        cases h
        intro b hb
        simp [Value.ownBlock] at hb
      · have hr := run_append_nil (P := P) w t ty e f z ht hi hz ad m c news hl hnews (by omega) (by omega) (by simp only [Nat.zero_add] at hbytes; omega)
        rw [hr] at h
        cases h
        intro b hb
        simp only [Value.ownBlock, Option.some.injEq] at hb
        exact .inr (by omega)
    · by_cases hroom : n + m ≤ cap
      · have hfit : n * f.size + news.length ≤ cur.size := by rw [hl, hcs, ← Nat.add_mul]; exact Nat.mul_le_mul_right _ hroom
        have hr := run_append_room (P := P) w t ty e f ht hi g n cap cur hg ad m c news hl hnews h1 hroom hfit
        rw [hr] at h
        cases h
        intro b hb
        exact .inl hb
      · have holds : ∀ j u, xs[j]? = some u → w.cell? ((⟨g, 0, none⟩ : Addr).add j) = some u := hown.cells (g := g) rfl
        have hr := run_append_grow (P := P) w t ty e f z ht hi hz ⟨g, 0, none⟩ n cap xs hown.1 holds ad m c news hl hnews (by omega) (by omega) (growslice_fits (by omega) hbytes)
        rw [hr] at h
        cases h
        intro b hb
        simp only [Value.ownBlock, Option.some.injEq] at hb
        exact .inr (by omega)
  | none =>
    have hn : news = [] := hnews
    subst hn
    have hm : m = 0 := by
      rcases Nat.eq_zero_or_pos m with h | h
      · exact h
      · have := Nat.mul_pos h hsz; simp at hl; omega
    subst hm
    have hcc := hc rfl
    subst hcc
    rcases hown.2 with ⟨rfl, rfl⟩ | ⟨g, cap, cur, rfl, hbg, hg, hnc, hcm, hcs, htake⟩
    · refine ⟨.slice none 0 0, w, ?_, by simpa using hown, ⟨rfl, rfl, rfl, Nat.le_refl _, fun _ _ _ => rfl⟩, fun b hb => .inl hb⟩
      simp [Builtin.append_, run_underlying ht, sizeOf, typeInfo, hi, Builtin.lenOf, Builtin.firstCells]
    · refine ⟨.slice (some ⟨g, 0, none⟩) n cap, w, ?_, by simpa using hown, ⟨rfl, rfl, rfl, Nat.le_refl _, fun _ _ _ => rfl⟩, fun b hb => .inl hb⟩
      simp [Builtin.append_, run_underlying ht, sizeOf, typeInfo, hi, Builtin.lenOf, Builtin.firstCells, hnc, storeCells]

theorem ops_append {B : Nat} {w0 : World} {l0 : List Nat} {R : List Asn} {e : TypeId} {a a' : Option Addr} {n c m c' size bytes : Nat} {xs news : List Value}
    (hs : St B w0 l0 w (rowA e size (.slice a n c) n xs :: R)) (hq : appQ P ops i s e = some ((a, n, c), (a', m, c'), size, bytes))
    (hc : a' = none → c' = 0) (hl : news.length = m * size) (hnews : CellsAt a' news w) (h1 : ∀ u ∈ news, u.oneCell' = true) (h63 : n + m ≤ maxLen) (hbytes : (n + m) * bytes ≤ 140737488355328)
    (hk : ∀ a'' c'' w', St B w0 l0 w' (rowA e size (.slice a'' (n + m) c'') (n + m) (xs ++ news) :: R) → OpsAt M P ops (i + 1) (putS s (dstOf ops i) (.slice a'' (n + m) c'')) w' K) : OpsAt M P ops i s w K := by
  unfold appQ at hq
  split at hq
  · rename_i o ho
    split at hq
    · rename_i x y t t' hop
      split at hq
      · rename_i e' f a1 n1 c1 a2 n2 c2 hu hi hx hy
        split at hq
        · rename_i z hz1 hz2 hz
          split at hq
          · rename_i hz3 hz4
            simp only [Option.some.injEq, Prod.mk.injEq] at hq
            obtain ⟨⟨rfl, rfl, rfl⟩, ⟨rfl, rfl, rfl⟩, rfl, rfl⟩ := hq
            obtain rfl := of_decide_eq_true hz1
            obtain rfl := of_decide_eq_true hz2
            have hB := hs.size
            obtain ⟨l1, s1, key⟩ := St.part (pre := [rowA e' f.size (.slice a1 n1 c1) n1 xs]) hs
            obtain ⟨m1, m2, ⟨g1, g2⟩, k1, k2, k3⟩ := s1
            obtain ⟨v', w', hr, hown', hgr, hfoot⟩ := run_append_row (P := P) w B t o.type e' f z hu hi hz (of_decide_eq_true hz3) (of_decide_eq_true hz4) _ n1 xs g1 a2 n2 c2 hc news hl hnews h1 h63 hbytes hB
            have hv' : ∃ a'' c'', v' = .slice a'' (n1 + n2) c'' := by
              rcases hown'.2 with ⟨rfl, h0⟩ | ⟨g, cap, cur, rfl, _⟩
              · exact ⟨none, 0, by rw [h0]⟩
              · exact ⟨_, _, rfl⟩
            obtain ⟨a'', c'', rfl⟩ := hv'
            refine ops_runs ho (v := .slice a'' (n1 + n2) c'') (w' := w') ?_ (hk a'' c'' w' ?_)
            · have hx' : evS s x = .slice a1 n1 c1 := hx
              simp only [execOp, hop, resolve, invoke, builtin, Sem.run_bind, Sem.run_pure, Result.andThen_ok, List.map_toArray, List.map_cons, List.map_nil, hx, hy, hr]
            · refine key w' [rowA e' f.size (.slice a'' (n1 + n2) c'') (n1 + n2) (xs ++ news)] (Value.ownBlock (.slice a'' (n1 + n2) c'')).toList ⟨_, [], ⟨hown', rfl⟩, fun b => by simp, fun b _ => by simp, by simp⟩ ?_
              refine ⟨hgr.os, hgr.tape, hgr.output, hgr.size, ?_, ?_⟩
              · intro b hb hbl
                refine hgr.block b hb fun e => hbl ((k3 b).2 (.inl ?_))
                rw [g2, ← e]
                simp
              · intro b hb
                simp only [Option.mem_toList] at hb
                refine (hfoot b hb).imp (fun h => (k3 b).2 (.inl ?_)) id
                rw [g2, h]
                simp
          · cases hq
        · cases hq
      · cases hq
    · cases hq
  · cases hq
end
end Go.Proofs.YthimamnblklkbaaDoor
