/- Rows: out of new blocks, written, made, cut. -/
import Derived.Test.YthimamnblklkbaaDoorSp
namespace Go.Proofs.YthimamnblklkbaaDoor
open Go Go.RowKit

theorem take_writeAt : ∀ (vs cs : List Value) (off m : Nat), off + vs.length ≤ m → (writeAt cs off vs).take m = writeAt (cs.take m) off vs
  | [], _, _, _, _ => rfl
  | v :: r, cs, off, m, h => by
    simp only [List.length_cons] at h
    rw [writeAt, writeAt, take_writeAt r _ _ _ (by omega), List.take_set]

section
variable {B : Nat} {w0 w w' : World} {l0 : List Nat} {H R : List Asn}

theorem St.row_of_blk {b n size : Nat} {cs : List Value} {e : TypeId} (hs : St B w0 l0 w (blk b (.cells cs.toArray e (0, 0)) :: R)) (hl : cs.length = n * size) (hm : n ≤ maxLen) :
    St B w0 l0 w (rowA e size (.slice (some ⟨b, 0, none⟩) n n) n cs :: R) := by
  refine St.conv hs ?_
  rintro l _ ⟨h1, h2, rfl⟩
  refine ⟨⟨hl, .inr ⟨b, n, cs.toArray, rfl, h1, h2, Nat.le_refl _, hm, by simpa using hl, ?_⟩⟩, rfl⟩
  rw [← hl]
  simp

/-- a nil slice is a row of nothing. -/
theorem St.row_nil (hs : St B w0 l0 w R) (e : TypeId) (size : Nat) : St B w0 l0 w (rowA e size (.slice none 0 0) 0 [] :: R) :=
  St.step0 (post := [rowA e size (.slice none 0 0) 0 []]) hs ⟨[], ⟨[], [], ⟨World.ownsRow_nil w B e size, rfl⟩, fun b => by simp, fun b => by simp, by simp⟩, Upd.refl w []⟩

theorem St.cells (hs : St B w0 l0 w H) (j : Nat) {e : TypeId} {size k c n : Nat} {a : Option Addr} {xs : List Value} (hj : H[j]? = some (rowA e size (.slice a k c) n xs)) : CellsAt a xs w := by
  obtain ⟨l, sep⟩ := hs.sep
  clear hs
  induction H generalizing j l with
  | nil => simp at hj
  | cons A H ih =>
    obtain ⟨l1, l2, h1, h2, _, _⟩ := sep
    cases j with
    | zero =>
      simp only [List.getElem?_cons_zero, Option.some.injEq] at hj
      subst hj
      exact rowA_cells h1
    | succ j => exact ih j (by simpa using hj) l2 h2

theorem St.rowLen (hs : St B w0 l0 w H) (j : Nat) {e : TypeId} {size k c n : Nat} {a : Option Addr} {xs : List Value} (hj : H[j]? = some (rowA e size (.slice a k c) n xs)) : xs.length = n * size ∧ k = n ∧ (a = none → c = 0) ∧ n ≤ c ∧ c ≤ maxLen := by
  obtain ⟨l, sep⟩ := hs.sep
  clear hs
  induction H generalizing j l with
  | nil => simp at hj
  | cons A H ih =>
    obtain ⟨l1, l2, h1, h2, _, _⟩ := sep
    cases j with
    | zero =>
      simp only [List.getElem?_cons_zero, Option.some.injEq] at hj
      subst hj
      obtain ⟨⟨h1, hh⟩, _⟩ := h1
      refine ⟨h1, ?_⟩
      rcases hh with ⟨hv, rfl⟩ | ⟨g, cap, cur, hv, _, _, hnc, hcm, _⟩
      · cases hv; exact ⟨rfl, fun _ => rfl, Nat.le_refl _, Nat.zero_le _⟩
      · cases hv; exact ⟨rfl, by simp, hnc, hcm⟩
    | succ j => exact ih j (by simpa using hj) l2 h2
end

section
variable {M : Bool} {P : Program} {ops : Array Oper} {i : Nat} {s : Fs} {w w' : World} {K : Fs → World → Prop}

/-- a store into an element of a row. -/
theorem ops_storeRow {B : Nat} {w0 : World} {l0 : List Nat} {R : List Asn} {e : TypeId} {size n c j : Nat} {a : Option Addr} {vs xs : List Value} (hs : St B w0 l0 w (rowA e size (.slice a n c) n xs :: R))
    (hq : storeQ P ops i s = some (adr a j, vs)) (hl : j + vs.length ≤ xs.length) (h0 : vs ≠ []) (hv : vs.all Value.oneCell' = true)
    (hk : ∀ w', St B w0 l0 w' (rowA e size (.slice a n c) n (writeAt xs j vs) :: R) → OpsAt M P ops (i + 1) (putS s (dstOf ops i) undef) w' K) : OpsAt M P ops i s w K := by
  have hrow : w.ownsRow B e size (.slice a n c) n xs := by
    obtain ⟨l, sep⟩ := hs.sep
    obtain ⟨_, _, h1, _⟩ := sep
    exact h1.1
  obtain ⟨hlen, hrow⟩ := hrow
  have h0' : 0 < vs.length := List.length_pos_iff.2 h0
  rcases hrow with ⟨hv', rfl⟩ | ⟨g, cap, cur, hv', hBg, hg, hnc, hcm, hcs, htake⟩
  · rw [Nat.zero_mul] at hlen; omega
  · cases hv'
    have hadd : adr (some ⟨g, 0, none⟩) j = ⟨g, j, none⟩ := by unfold adr Addr.add; split <;> simp_all
    rw [hadd] at hq
    have hcur : cur = cur.toList.toArray := by simp
    have hle : xs.length ≤ cur.toList.length := by rw [← htake]; simp only [List.length_take]; omega
    obtain ⟨w', h1, h2, h3⟩ := run_storeCells_blk (P := P) g e j vs 0 cur.toList w (by rw [← hcur]; exact hg) (by simp only [Array.length_toList] at *; omega) hv
    have hst : St B w0 l0 w' (rowA e size (.slice (some ⟨g, 0, none⟩) n c) n (writeAt xs j vs) :: R) := by
      refine St.step1 (post := [rowA e size (.slice (some ⟨g, 0, none⟩) n c) n (writeAt xs j vs)]) hs ?_
      rintro l ⟨_, rfl⟩
      refine ⟨[g], ⟨[g], [], ⟨⟨by rw [writeAt_length]; exact hlen, .inr ⟨g, c, _, rfl, hBg, h2, hnc, hcm, ?_, ?_⟩⟩, rfl⟩, fun c => by simp, fun c _ => by simp, by simp⟩, ?_⟩
      · simpa [writeAt_length] using hcs
      · simp only [Nat.add_zero]
        rw [take_writeAt _ _ _ _ (by omega), htake]
      · simpa [Value.ownBlock] using h3
    have hk' := hk w' hst
    unfold storeQ at hq
    split at hq
    · rename_i o ho
      split at hq
      · rename_i ty x y hop
        refine ops_runs0 ho ?_ hk'
        split at hq
        · rename_i f a hi hx
          split at hq
          · rename_i hsz
            simp only [Option.some.injEq, Prod.mk.injEq] at hq
            obtain ⟨rfl, rfl⟩ := hq
            have hz := of_decide_eq_true hsz
            have hso : (sizeOf ty).run P w = .ok f.size w := by simp [sizeOf, typeInfo, hi]
            simp only [execOp, hop, hx, Instr.storeAt, Instr.sureAddr, storeVar, Sem.run_bind, Sem.run_pure, Result.andThen_ok, hso, hz, ne_eq, not_true_eq_false, if_false, h1]
          · cases hq
        · cases hq
      · cases hq
    · cases hq

/-- x[lo:hi] of a slice: the slice, the bounds. -/
def sliceQ (P : Program) (ops : Array Oper) (i : Nat) (s : Fs) : Option ((Option Addr × Nat × Nat) × Option Int × Option Int × Nat) :=
  match opQ ops i s with
  | some o => match o.op with
    | .slice t x lo hi none => match P.underlying t, evS s x with
      | some (.slice e), .slice a n c => match P.info? e, (match lo with | none => some none | some y => match evS s y with | .int _ k => some (some k) | _ => none), (match hi with | none => some none | some y => match evS s y with | .int _ k => some (some k) | _ => none) with
        | some f, some l, some h => some ((a, n, c), l, h, f.size)
        | _, _, _ => none
      | _, _ => none
    | _ => none
  | none => none

theorem runs_slice {a : Option Addr} {n c size : Nat} {lo hi : Option Int} (k m : Nat) (hlo : lo = some (k : Int) ∨ lo = none ∧ k = 0) (hhi : hi = some (m : Int) ∨ hi = none ∧ m = n) (h1 : k ≤ m) (h2 : m ≤ c)
    (hq : sliceQ P ops i s = some ((a, n, c), lo, hi, size)) : RunsTo P ops i s w (.slice (if c = k then a else a.map (·.add (k * size))) (m - k) (c - k)) w := by
  unfold sliceQ at hq
  split at hq
  · rename_i o ho
    split at hq
    · rename_i t x lo' hi' hop
      refine ⟨_, ho, ?_⟩
      split at hq
      · rename_i e a' n' c' hu hx
        split at hq
        · rename_i f l h hf hl hh
          simp only [Option.some.injEq, Prod.mk.injEq] at hq
          obtain ⟨⟨rfl, rfl, rfl⟩, rfl, rfl, rfl⟩ := hq
          have hso : (sizeOf e).run P w = .ok f.size w := by simp [sizeOf, typeInfo, hf]
          have hun := run_underlying (P := P) hu w
          have hb : ∀ (x : Value) (q : IntKind) (z : Nat) (y : Nat) (code : BoundsCode), x = .int q (z : Int) → z ≤ y → (Instr.sliceBound x y code).run P w = .ok z w := by
            rintro x q z y code rfl hzy
            have : (0 : Int) ≤ (z : Int) ∧ (z : Int) ≤ (y : Int) := ⟨by omega, by omega⟩
            simp only [Instr.sliceBound, asIntOf, Sem.run_bind, Sem.run_pure, Result.andThen_ok, if_pos this, Int.toNat_natCast]
          have hbounds : (Instr.sliceBounds true n' c' (lo'.map (evS s)) (hi'.map (evS s)) none).run P w = .ok (k, m, c') w := by
            unfold Instr.sliceBounds
            simp only [Sem.run_bind, Sem.run_pure, Result.andThen_ok]
            have hm : (match hi'.map (evS s), (none : Option Value) with
                | some v, some _ => Instr.sliceBound v c' .slice3B
                | some v, none => Instr.sliceBound v c' (if true = true then .sliceAcap else .sliceAlen)
                | none, none => pure n'
                | none, some _ => stuck "Slice: max without high").run P w = .ok m w := by
              cases hi' with
              | none =>
                simp only [Option.some.injEq] at hh
                subst hh
                rcases hhi with hhi | ⟨_, rfl⟩
                · cases hhi
                · rfl
              | some y =>
                simp only at hh
                split at hh
                · rename_i q z hy
                  cases hh
                  rcases hhi with hhi | ⟨hhi, _⟩
                  · cases hhi
                    exact hb _ q m _ _ hy h2
                  · cases hhi
                · cases hh
            have hk : (match lo'.map (evS s) with
                | some v => Instr.sliceBound v m (if (none : Option Value).isSome = true then .slice3C else .sliceB)
                | none => pure 0).run P w = .ok k w := by
              cases lo' with
              | none =>
                simp only [Option.some.injEq] at hl
                subst hl
                rcases hlo with hlo | ⟨_, rfl⟩
                · cases hlo
                · rfl
              | some y =>
                simp only at hl
                split at hl
                · rename_i q z hy
                  cases hl
                  rcases hlo with hlo | ⟨hlo, _⟩
                  · cases hlo
                    exact hb _ q k _ _ hy h1
                  · cases hlo
                · cases hl
            cases hi' <;> simp only [Option.map_none, Option.map_some] at hm ⊢ <;> rw [Sem.run_bind, hm] <;> simp only [Result.andThen_ok] <;> cases lo' <;> simp only [Option.map_none, Option.map_some] at hk ⊢ <;> rw [Sem.run_bind, hk] <;> rfl
          have hxx : (Instr.sliceAt t (evS s x) (lo'.map (evS s)) (hi'.map (evS s)) none).run P w = .ok (.slice (if c' = k then a' else a'.map (·.add (k * f.size))) (m - k) (c' - k)) w := by
            unfold Instr.sliceAt
            simp only [Sem.run_bind, hun, Result.andThen_ok, hx]
            unfold Instr.slice
            simp only [Sem.run_bind, hun, Result.andThen_ok, hbounds, hso, Sem.run_pure]
          simp only [execOp, hop, Option.map_none, Sem.run_bind, hxx, Result.andThen_ok, Sem.run_pure]
        · cases hq
      · cases hq
    · cases hq
  · cases hq
end
end Go.Proofs.YthimamnblklkbaaDoor
