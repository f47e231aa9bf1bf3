/- Texts of one kind, one behind the other: Sr, Ls, Rf, Rg, Au, Bt, S2, Lw, Lv, Lp, Kw, Rw, Lo, Li, Sg, Sk, Sc, Lg. -/
import Derived.Test.YthimamnblklkbaaDoorGA
import Derived.Test.YthimamnblklkbaaDoorGB
import Derived.Laws.Entries
import Derived.Test.YthimamnblklkbaaDoorRows
import Derived.ProofKit
import Derived.Deep.Slices
import Derived.Deep.Fields
import Derived.OpenShut
import Derived.Laws.OwnMore
set_option linter.unusedVariables false
set_option linter.unusedSimpArgs false
/- Division by what is not zero; the beginning of a slice. -/
namespace Go.Proofs.YthimamnblklkbaaDoor
open Go Go.RowKit

section
variable {M : Bool} {P : Program} {ops : Array Oper} {i : Nat} {s : Fs} {w : World}

/-- '/' or '%' of two numbers of one kind. -/
def divQ (ops : Array Oper) (i : Nat) (s : Fs) : Option (Bool × IntKind × Int × Int) :=
  match opQ ops i s with
  | some o => match o.op with
    | .binOp op _ x y _ => match op, evS s x, evS s y with
      | .rem, .int k a, .int k' b => if k = k' then some (true, k, a, b) else none
      | .quo, .int k a, .int k' b => if k = k' then some (false, k, a, b) else none
      | _, _, _ => none
    | _ => none
  | none => none

theorem run_guard_int (t : TypeId) (x y : Operand) (op : BinOp) (k k' : IntKind) (a b : Int) (w : World) : (eqGuard op t x y (.int k a) (.int k' b)).run P w = .ok () w := by
  unfold eqGuard
  cases op <;> rfl

theorem runs_rem {k : IntKind} {a b r : Int} (hq : divQ ops i s = some (true, k, a, b)) (hb : ¬ b = 0) (hr : a.tmod b = r) : RunsTo P ops i s w (.int k r) w := by
  unfold divQ at hq
  split at hq
  · rename_i o ho
    split at hq
    · rename_i op t x y yt hop
      refine ⟨o, ho, ?_⟩
      split at hq
      · rename_i k1 a1 k2 b1 hx hy
        split at hq
        · rename_i hk
          cases hq
          subst hk hr
          simp only [execOp, hop, hx, hy, Sem.run_bind, run_guard_int, Result.andThen_ok, Sem.run_pure, binOp, ne_eq, not_true_eq_false, if_false, Op.intDiv, if_neg hb]
        · cases hq
      · split at hq <;> cases hq
      · cases hq
    · cases hq
  · cases hq

theorem runs_quo {k : IntKind} {a b r : Int} (hq : divQ ops i s = some (false, k, a, b)) (hb : ¬ b = 0) (hr : k.wrap (a.tdiv b) = r) : RunsTo P ops i s w (.int k r) w := by
  unfold divQ at hq
  split at hq
  · rename_i o ho
    split at hq
    · rename_i op t x y yt hop
      refine ⟨o, ho, ?_⟩
      split at hq
      · split at hq <;> cases hq
      · rename_i k1 a1 k2 b1 hx hy
        split at hq
        · rename_i hk
          cases hq
          subst hk hr
          simp only [execOp, hop, hx, hy, Sem.run_bind, run_guard_int, Result.andThen_ok, Sem.run_pure, binOp, ne_eq, not_true_eq_false, if_false, Op.intDiv, if_neg hb]
        · cases hq
      · cases hq
    · cases hq
  · cases hq

theorem rem_nat {x y : Int} (hx : 0 ≤ x) (hy : 0 < y) : ∃ r : Nat, x.tmod y = (r : Int) ∧ (r : Int) < y ∧ (r : Int) = x % y :=
  ⟨(x.tmod y).toNat, by have := Int.tmod_nonneg y hx; omega, by have := Int.tmod_nonneg y hx; have := Int.tmod_lt_of_pos x hy; omega, by have := Int.tmod_nonneg y hx; rw [Int.toNat_of_nonneg this, Int.tmod_eq_emod_of_nonneg hx]⟩

theorem addr_zero (ad : Addr) : ad.add 0 = ad := by
  unfold Addr.add; simp

theorem runs_prefix {a : Option Addr} {n c size : Nat} {z : Int} (m : Nat) (hz : z = (m : Int)) (h : m ≤ n) (h2 : n ≤ c) (hq : sliceQ P ops i s = some ((a, n, c), none, some z, size)) : RunsTo P ops i s w (.slice a m c) w := by
  subst hz
  have h1 := runs_slice (P := P) (ops := ops) (i := i) (s := s) (w := w) (a := a) (n := n) (c := c) (size := size) 0 m (.inr ⟨rfl, rfl⟩) (.inl rfl) (Nat.zero_le _) (by omega) hq
  have e : (if c = 0 then a else a.map (·.add (0 * size))) = a := by
    split
    · rfl
    · cases a with
      | none => rfl
      | some ad => simp [Nat.zero_mul, addr_zero]
  rw [e] at h1
  exact h1
end

section
variable {α : Type} (K : Kind α) {B : Nat} {w0 w : World} {l0 : List Nat} {H : List Asn}
theorem St.kcap (hs : St B w0 l0 w H) (j : Nat) {a : Option Addr} {c : Nat} {l : List α} (hj : H[j]? = some (K.row a c l)) : l.length ≤ c := (hs.rowLen j hj).2.2.2.1
theorem cells_take {a : Option Addr} {l : List α} (m : Nat) (h : CellsAt a (K.cells l) w) : CellsAt a (K.cells (l.take m)) w := by
  cases a with
  | none =>
    have := cells_none K h
    subst this
    simpa using h
  | some ad =>
    intro j v hv
    refine h j v ?_
    have e : K.cells l = K.cells (l.take m) ++ K.cells (l.drop m) := by rw [← K.cells_append, List.take_append_drop]
    rw [e, List.getElem?_append_left (List.getElem?_eq_some_iff.1 hv).1]
    exact hv
end
end Go.Proofs.YthimamnblklkbaaDoor

/- Loops unrolled; results that lie in a cell. -/
namespace Go.Proofs.YthimamnblklkbaaDoor
open Go Go.RowKit

section
variable {P : Program} {c : Code} {s : Fs} {w : World} {Q : Exit → Fs → World → Prop}

/-! ### results -/
def aggSize (P : Program) (t : TypeId) : Option Nat :=
  match P.underlying t, P.info? t with
  | some (.struct _), some f => some f.size
  | some (.array _ _), some f => some f.size
  | _, _ => none

theorem run_loadVar_agg {t : TypeId} {ad : Addr} {cs : List Value} (hz : aggSize P t = some cs.length) (hc : ∀ j v, cs[j]? = some v → w.cell? (ad.add j) = some v) : (loadVar t ad).run P w = .ok (.agg cs.toArray) w := by
  unfold aggSize at hz
  have key : ∀ (d : TypeDesc) (f : TypeInfo), P.underlying t = some d → P.info? t = some f → (match d with | .struct _ | .array _ _ => true | _ => false) = true → some f.size = some cs.length → (loadVar t ad).run P w = .ok (.agg cs.toArray) w := by
    intro d f hu hi hd he
    simp only [Option.some.injEq] at he
    have hag : (isAgg t).run P w = .ok true w := by
      unfold isAgg
      rw [Sem.run_bind, run_underlying hu]
      simp only [Result.andThen_ok]
      cases d <;> first | rfl | simp at hd
    have hsz : (sizeOf t).run P w = .ok f.size w := by
      simp [sizeOf, typeInfo, hi]
    have hl := run_loadCells_list (P := P) w ad cs hc
    rw [← he] at hl
    simp only [loadVar, Sem.run_bind, Result.andThen_ok, hag, hsz, if_true, hl, Sem.run_pure]
  split at hz
  · rename_i hu hi; exact key _ _ hu hi rfl hz
  · rename_i hu hi; exact key _ _ hu hi rfl hz
  · cases hz

theorem results_cell {fn : Func} {a : Nat} {t : TypeId} {ad : Addr} {cs : List Value} (hr : fn.results = #[.cell a t]) (ha0 : (s.d, s.f a) = ([], .pointer (some ad))) (hz : aggSize P t = some cs.length)
    (hc : ∀ j v, cs[j]? = some v → w.cell? (ad.add j) = some v) : (resS fn s).run P w = .ok (.agg cs.toArray) w := by
  have hl := run_loadVar_agg (P := P) (w := w) hz hc
  have ha' : s.f a = .pointer (some ad) := congrArg Prod.snd ha0
  have hd : s.d = [] := congrArg Prod.fst ha0
  unfold resS
  rw [hd]
  simp only
  unfold resD
  rw [hr]
  simp [resF, ha', asAddr, hl]
theorem results_cell2 {fn : Func} {a u : Nat} {t : TypeId} {ad : Addr} {cs : List Value} {v : Value} (hr : fn.results = #[.cell a t, .tmp u]) (ha0 : (s.d, s.f a) = ([], .pointer (some ad))) (hv : s.f u = v) (hz : aggSize P t = some cs.length)
    (hc : ∀ j v, cs[j]? = some v → w.cell? (ad.add j) = some v) : (resS fn s).run P w = .ok (.tuple #[.agg cs.toArray, v]) w := by
  have hl := run_loadVar_agg (P := P) (w := w) hz hc
  subst hv
  have ha' : s.f a = .pointer (some ad) := congrArg Prod.snd ha0
  have hd : s.d = [] := congrArg Prod.fst ha0
  unfold resS
  rw [hd]
  simp only
  unfold resD
  rw [hr]
  simp [resF, ha', asAddr, hl]
end
end Go.Proofs.YthimamnblklkbaaDoor

/- Ranges over functions: a call of yield; a round; the statement; the mark that it leaves. -/
namespace Go.Proofs.YthimamnblklkbaaDoor
open Go Go.RowKit

/-- What a call of yield does. -/
def YSpec (P : Program) (l : Nat) (args : Array Value) (B : Nat) (w : World) (pre : List Asn) (post : Value → List Asn → Prop) : Prop :=
  ∀ lf, B ≤ w.heap.size → Sep B w pre lf → ∃ f tmps assign body, (Instr.yield l args).run P w = .ok (.round l f tmps assign body) w ∧
    RoundIn (fen none) 0 P l f tmps assign body w (fun e w' => ∃ v, e = .returned v ∧ ∃ H' l', post v H' ∧ Sep B w' H' l' ∧ Upd w w' lf l')

section
variable {P : Program} {ops : Array Oper} {i : Nat} {s : Fs} {w : World} {K : Fs → World → Prop}

/-- a call of yield: its loop, its arguments. -/
def yieldQ (ops : Array Oper) (i : Nat) (s : Fs) : Option (Nat × Array Value) :=
  match opQ ops i s with
  | some o => match o.op with
    | .call { callee := .value x, args := ags, .. } => match evS s x with
      | .func (.yield l) ⟨[]⟩ ⟨[]⟩ => some (l, ags.map (evS s))
      | _ => none
    | _ => none
  | none => none

theorem ops_yield {B : Nat} {w0 : World} {l0 : List Nat} {pre R : List Asn} {l : Nat} {args : Array Value} {post : Value → List Asn → Prop} (hs : St B w0 l0 w (pre ++ R)) (hr : s.r = none)
    (hq : yieldQ ops i s = some (l, args)) (hy : YSpec P l args B w pre post)
    (hk : ∀ v H' w', post v H' → St B w0 l0 w' (H' ++ R) → OpsAt true P ops (i + 1) (putS s (dstOf ops i) v) w' K) : OpsAt true P ops i s w K := by
  unfold yieldQ at hq
  split at hq
  · rename_i o ho
    obtain ⟨h1, h2, h3, h4⟩ := opQ_some' ho
    rw [h3] at hk
    split at hq
    · rename_i x ags tys hop
      split at hq
      · rename_i l' hx
        simp only [Option.some.injEq, Prod.mk.injEq] at hq
        obtain ⟨rfl, rfl⟩ := hq
        have hB := hs.size
        obtain ⟨l1, s1, key⟩ := hs.part
        obtain ⟨f, tmps, assign, body, hyr, hrd⟩ := hy l1 hB s1
        refine ⟨fun x' hx' T hT => ?_⟩
        rw [range_cons h1]
        simp only [wpM, wpOpsIn, h1, yield_rel hx', h2, if_true]
        refine ⟨fun _ _ => trivial, ?_⟩
        rw [Oper.semAt_eq _ _ _ (by intro c hc; rw [hop] at hc; cases hc), ev_rel hx']
        have hrun : (execOp (evS s) o).run P w = .ok (.round l' f tmps assign body) w := by
          simp [execOp, hop, resolve, hx, invoke, go_sem]
          exact hyr
        rw [hrun, hr]
        refine ⟨fen_depth, RoundIn.mono hrd ?_⟩
        rintro e w' ⟨v, rfl, H', l2, hp, hsep, hu⟩
        have h5 := (hk v H' w' hp (key w' H' l2 hsep hu)).out _ (rel_put hx' h4 v) T (fun y w' ⟨s', a, b, c⟩ => hT y w' ⟨s', a, b.trans (put_r _ _ _), c⟩)
        rw [put_r, hr] at h5
        exact h5
      · cases hq
    · cases hq
  · cases hq
end

/-! ### a round -/
def roundQ (B : Nat) (w : World) (lf : List Nat) (l : Nat) (rc : Loop) (post : Value → List Asn → Prop) : Exit → Fs → World → Prop
  | .normal, _, w3 => ∃ Y', St B w lf w3 (blk l (.loop { rc with state := .busy }) :: Y') ∧ post (.bool true) (blk l (.loop { rc with state := .ready, pending := none }) :: Y')
  | .ret, _, w3 => ∃ Y', St B w lf w3 (blk l (.loop { rc with state := .busy }) :: Y') ∧ post (.bool false) (blk l (.loop { rc with state := .done, pending := some .ret }) :: Y')
  | .exit id, _, w3 => ∃ Y', St B w lf w3 (blk l (.loop { rc with state := .busy }) :: Y') ∧ post (.bool false) (blk l (.loop { rc with state := .done, pending := some (.exit id) }) :: Y')
  | _, _, _ => False

theorem putObj_blk {B : Nat} {w0 w : World} {l0 : List Nat} {R : List Asn} {l : Nat} {o : Obj} (o' : Obj) (hs : St B w0 l0 w (blk l o :: R)) : St B w0 l0 (w.putObj l o') (blk l o' :: R) := by
  refine St.step1 (post := [blk l o']) hs ?_
  rintro lf ⟨h1, h2, rfl⟩
  have hlt := (Array.getElem?_eq_some_iff.1 h2).1
  refine ⟨[l], ⟨[l], [], ⟨h1, World.putObj_heap_same hlt, rfl⟩, fun b => by simp, fun b _ => by simp, by simp⟩, rfl, rfl, rfl, by simp, ?_, fun b h => .inl h⟩
  intro b _ hb
  simp only [List.mem_singleton] at hb
  exact World.putObj_heap_other hb

theorem St.head {B : Nat} {w0 w : World} {l0 : List Nat} {R : List Asn} {l : Nat} {o : Obj} (hs : St B w0 l0 w (blk l o :: R)) : w.heap[l]? = some o := hs.heapAt 0 rfl

theorem yspec_round {P : Program} {B : Nat} {w : World} {l : Nat} {rc : Loop} {Y : List Asn} {args : Array Value} {post : Value → List Asn → Prop} (hst : rc.state = .ready) (hsz : args.size = rc.params.size)
    (s0 : Fs) (hs0 : Rel ⟨(rc.params.zip args).foldl (fun tmps (t, a) => tmps.setIfInBounds t a) rc.tmps, []⟩ s0) (hr0 : s0.r = some l)
    (walk : ∀ lf, St B w lf w (blk l (.loop rc) :: Y) → ∀ K : Fs → World → Prop, (∀ s' w1, St B w lf w1 (blk l (.loop rc) :: Y) →
      (∀ w2, St B w lf w2 (blk l (.loop { rc with state := .busy }) :: Y) → W P rc.body s' w2 (roundQ B w lf l rc post)) → K s' w1) → W P rc.assign s0 w (seqQ K (fun _ _ _ => False))) :
    YSpec P l args B w (blk l (.loop rc) :: Y) post := by
  intro lf hB hsep
  have hst0 : St B w lf w (blk l (.loop rc) :: Y) := St.begin hB hsep
  refine ⟨rc.fn, _, rc.assign, rc.body, run_yield hst0.head hsz, roundIn_of_wpIn trivial ?_⟩
  have hw := (walk lf hst0 (fun s' w1 => St B w lf w1 (blk l (.loop rc) :: Y) ∧ ∀ w2, St B w lf w2 (blk l (.loop { rc with state := .busy }) :: Y) → W P rc.body s' w2 (roundQ B w lf l rc post)) (fun s' w1 h1 h2 => ⟨h1, h2⟩)).out _ hs0
  rw [hr0] at hw
  refine wpIn_mono hw ?_
  rintro e x w1 ⟨s', hx, hsr, hq⟩
  cases e with
  | normal =>
    obtain ⟨h1, h2⟩ := (show St B w lf w1 (blk l (.loop rc) :: Y) ∧ _ from hq)
    refine ⟨_, run_beginRound h1.head hst, ?_⟩
    have h3 := (h2 _ (putObj_blk (.loop { rc with state := .busy }) h1)).out x hx
    rw [hsr] at h3
    refine wpIn_mono h3 ?_
    have fin : ∀ (jump : Option Code) (w3 : World) (Y' : List Asn) (v : Value), v = .bool jump.isNone → St B w lf w3 (blk l (.loop { rc with state := .busy }) :: Y') →
        post v (blk l (.loop { rc with state := if jump.isNone then .ready else .done, pending := jump }) :: Y') →
        ∃ v w', (Instr.endRound l jump).run P w3 = .ok v w' ∧ ∃ v', Ending.returned v = .returned v' ∧ ∃ H' l', post v' H' ∧ Sep B w' H' l' ∧ Upd w w' lf l' := by
      intro jump w3 Y' v hv hs3 hp
      have hs4 := putObj_blk (.loop { rc with state := if jump.isNone then .ready else .done, pending := jump }) hs3
      obtain ⟨_, _, l', hsep', hu⟩ := hs4
      subst hv
      exact ⟨_, _, run_endRound jump hs3.head, _, rfl, _, l', hp, hsep', hu⟩
    rintro e y w3 ⟨s3, hy, hs3, hq3⟩
    cases e with
    | normal => obtain ⟨Y', ha, hb⟩ := hq3; exact fin none w3 Y' _ rfl ha hb
    | ret => obtain ⟨Y', ha, hb⟩ := hq3; exact fin (some .ret) w3 Y' _ rfl ha hb
    | exit id => obtain ⟨Y', ha, hb⟩ := hq3; exact fin (some (.exit id)) w3 Y' _ rfl ha hb
    | _ => exact hq3.elim
  | _ => exact hq.elim

/-! ### the statement -/
def Fs.mark (s : Fs) (D : Nat) : Fs := ⟨s.n, s.f, s.r, { target := .collected D, args := #[] } :: s.d⟩

theorem W.rangeFunc {P : Program} {s : Fs} {w : World} {Q : Exit → Fs → World → Prop} {B : Nat} {w0 : World} {l0 : List Nat} {g : Operand} {ps : Array Tmp} {assign body : Code} {gf : Nat} {lb : Array Value} {pre R : List Asn}
    {post : Loop → Nat → Value → List Asn → Prop}
    (hs : St B w0 l0 w (pre ++ R)) (hr : s.r = none) (hg : evS s g = .func (.func gf) #[] lb) (hf : ∀ args w, (callFunc gf args).run P w = .ok (.enter gf args) w)
    (hc : ∀ (rc : Loop) (l : Nat) (w1 : World), rc.tmps.size = s.n → (∀ i, rc.tmps.getD i undef = s.f i) → rc.state = .ready → rc.pending = none → rc.params = ps → rc.assign = assign → rc.body = body →
      St B w0 l0 w1 (blk l (.loop rc) :: blk rc.defers (.deferred (some [])) :: (pre ++ R)) → Spec P gf (#[.func (.yield l) #[] #[]] ++ lb) B w1 (blk l (.loop rc) :: pre) (post rc l))
    (hk : ∀ (rc : Loop) (l : Nat) (v : Value) (H' : List Asn), post rc l v H' → ∃ rc' H'', rc'.state ≠ .busy ∧ rc'.defers = rc.defers ∧ H' = blk l (.loop rc') :: H'' ∧
      ∀ w3, St B w0 l0 w3 (blk rc.defers (.deferred (some [])) :: (H'' ++ R)) → match rc'.pending with
        | none => Q .normal (s.mark rc.defers) w3
        | some c => W P c (s.mark rc.defers) w3 Q) : W P (.rangeFunc g ps assign body) s w Q := by
  refine ⟨fun x hx => ?_⟩
  rw [hr]
  refine wpIn_rangeFunc ?_
  intro fn _
  obtain ⟨rc, hrc⟩ : ∃ rc : Loop, rc = { state := .ready, pending := none, fn, tmps := x.tmps, params := ps, assign, body, defers := w.heap.size } := ⟨_, rfl⟩
  have hB := hs.size
  have hs1 : St B w0 l0 (w.alloc (.deferred (some []))) (blk w.heap.size (.deferred (some [])) :: (pre ++ R)) := by
    refine St.step0 (post := [blk w.heap.size (.deferred (some []))]) hs ⟨[w.heap.size], ⟨[w.heap.size], [], ⟨hB, heap_alloc_new w _, rfl⟩, fun c => by simp, fun c _ => by simp, by simp⟩, rfl, rfl, rfl, by simp, fun c hc _ => Below.heap_alloc _ _ _ hc, fun c hc => .inr (by simp only [List.mem_singleton] at hc; omega)⟩
  have hB1 := hs1.size
  have hs2 : St B w0 l0 ((w.alloc (.deferred (some []))).alloc (.loop rc)) (blk (w.heap.size + 1) (.loop rc) :: blk w.heap.size (.deferred (some [])) :: (pre ++ R)) := by
    have e : (w.alloc (.deferred (some []))).heap.size = w.heap.size + 1 := by simp
    have hn := heap_alloc_new (w.alloc (.deferred (some []))) (.loop rc)
    rw [e] at hn hB1
    refine St.step0 (post := [blk (w.heap.size + 1) (.loop rc)]) hs1 ⟨[w.heap.size + 1], ⟨[w.heap.size + 1], [], ⟨hB1, hn, rfl⟩, fun c => by simp, fun c _ => by simp, by simp⟩, rfl, rfl, rfl, by simp, fun c hc _ => Below.heap_alloc _ _ _ hc, fun c hc => .inr (by simp only [List.mem_singleton] at hc; omega)⟩
  have hrd : rc.defers = w.heap.size := by rw [hrc]
  have hspec := hc rc (w.heap.size + 1) _ (by rw [hrc]; exact hx.1.1) (by rw [hrc]; exact hx.2) (by rw [hrc]) (by rw [hrc]) (by rw [hrc]) (by rw [hrc]) (by rw [hrc]) (by rw [hrd]; exact hs2)
  have hperm : (blk (w.heap.size + 1) (.loop rc) :: blk w.heap.size (.deferred (some [])) :: (pre ++ R)).Perm ((blk (w.heap.size + 1) (.loop rc) :: pre) ++ (blk w.heap.size (.deferred (some [])) :: R)) := by
    simp only [List.cons_append]
    exact (List.perm_middle.symm).cons _
  have hs3 := hs2.perm hperm
  obtain ⟨l1, s1, key⟩ := hs3.part
  refine ⟨w.heap.size + 1, [{ target := .collected w.heap.size, args := #[] }], (w.alloc (.deferred (some []))).alloc (.loop rc), { target := .fn (.func gf) lb, args := #[.func (.yield (w.heap.size + 1)) #[] #[]] }, (w.alloc (.deferred (some []))).alloc (.loop rc), gf,
    #[.func (.yield (w.heap.size + 1)) #[] #[]] ++ lb, (w.alloc (.deferred (some []))).alloc (.loop rc), by rw [show (fen none).round = none from rfl, run_enterLoop_outer, ← hrc], ?_, fun _ _ => trivial, ?_, fen_depth, ?_⟩
  · simp only [resolve, ev_rel hx, hg]
    simp [go_sem]
    rfl
  · simp [invoke, go_sem, hf]
  · refine calls_fen (Calls.mono (hspec l1 hs3.size s1) ?_)
    rintro e w3 ⟨v, rfl, H', l', hp, hsep, hu⟩
    obtain ⟨rc', H'', hne, hd, rfl, hfin⟩ := hk rc _ v H' hp
    have hs4 := key w3 _ l' hsep hu
    have hs5 := putObj_blk (.loop { rc' with state := .exhausted }) hs4
    have hs6 := hs5.drop
    have hs7 : St B w0 l0 (w3.putObj (w.heap.size + 1) (.loop { rc' with state := .exhausted })) (blk rc.defers (.deferred (some [])) :: (H'' ++ R)) := by
      rw [hrd]; exact hs6.perm List.perm_middle
    refine ⟨rc'.pending, _, run_endLoop (hs4.heapAt 0 rfl) hne, ?_⟩
    have h8 := hfin _ hs7
    have hrel : Rel { x with defers := [{ target := .collected w.heap.size, args := #[] }] ++ x.defers } (s.mark rc.defers) := by
      refine ⟨⟨hx.1.1, ?_⟩, hx.2⟩
      simp [Fs.mark, hrd, hx.1.2]
    cases hpe : rc'.pending with
    | none => rw [hpe] at h8; exact ⟨_, hrel, hr, h8⟩
    | some c =>
      rw [hpe] at h8
      have h9 := W.out h8 _ hrel
      have hmr : (s.mark rc.defers).r = none := hr
      rw [hmr] at h9
      exact h9

/-! ### the mark, at the function's end -/
theorem leave_mark {P : Program} {fn : Func} {R : Value → World → Prop} {s : Fs} {B : Nat} {w0 w : World} {l0 : List Nat} {D : Nat} {H : List Asn} {v : Value} (hs : St B w0 l0 w (blk D (.deferred (some [])) :: H))
    (hd : s.d = [{ target := .collected D, args := #[] }]) (hv : ∀ w', St B w0 l0 w' H → (resD fn s).run P w' = .ok v w') (hR : ∀ w', St B w0 l0 w' H → R v w') : Leave P fn R s w := by
  refine ⟨?_⟩
  rw [hd]
  have h := (putObj_blk (.deferred none) hs).drop
  exact ⟨D, _, rfl, run_takeDeferred hs.head, v, hv _ h, hR _ h⟩

/-! ### results, one by one -/
def scalarB (P : Program) (t : TypeId) : Bool :=
  match P.underlying t with
  | some (.struct _) => false
  | some (.array _ _) => false
  | some _ => true
  | none => false

theorem run_loadVar_cell {P : Program} {w : World} {t : TypeId} {ad : Addr} {v : Value} (ht : scalarB P t = true) (hc : w.cell? ad = some v) : (loadVar t ad).run P w = .ok v w := by
  unfold scalarB at ht
  split at ht
  · cases ht
  · cases ht
  · rename_i d h1 h2 hu
    have hag : (isAgg t).run P w = .ok false w := by
      unfold isAgg
      rw [Sem.run_bind, run_underlying hu]
      simp only [Result.andThen_ok]
      cases d <;> first | rfl | exact (h1 _ rfl).elim | exact (h2 _ _ rfl).elim
    simp only [loadVar, Sem.run_bind, Result.andThen_ok, hag, load]
    simp [Sem.run, hc]
  · cases ht

inductive ResAt (P : Program) (s : Fs) (w : World) : ResultVar → Value → Prop
  | tmp {t : Tmp} {v : Value} (h : s.f t = v) : ResAt P s w (.tmp t) v
  | cell {a : Tmp} {t : TypeId} {ad : Addr} {v : Value} (ha : s.f a = .pointer (some ad)) (ht : scalarB P t = true) (hc : w.cell? ad = some v) : ResAt P s w (.cell a t) v
  | agg {a : Tmp} {t : TypeId} {ad : Addr} {cs : List Value} (ha : s.f a = .pointer (some ad)) (hz : aggSize P t = some cs.length) (hc : ∀ j v, cs[j]? = some v → w.cell? (ad.add j) = some v) : ResAt P s w (.cell a t) (.agg cs.toArray)

theorem ResAt.run {P : Program} {s : Fs} {w : World} {r : ResultVar} {v : Value} (h : ResAt P s w r v) :
    (resF s r).run P w = .ok v w := by
  cases h with
  | tmp h => subst h; rfl
  | cell ha ht hc => simp [resF, ha, asAddr, run_loadVar_cell ht hc]
  | agg ha hz hc => simp [resF, ha, asAddr, run_loadVar_agg hz hc]

theorem resD_one {P : Program} {s : Fs} {w : World} {fn : Func} {r : ResultVar} {v : Value} (hr : fn.results = #[r]) (h : ResAt P s w r v) : (resD fn s).run P w = .ok v w := by
  have h1 := h.run
  unfold resD
  rw [hr]
  simp [h1]
theorem resD_two {P : Program} {s : Fs} {w : World} {fn : Func} {r q : ResultVar} {v u : Value} (hr : fn.results = #[r, q]) (h : ResAt P s w r v) (h' : ResAt P s w q u) : (resD fn s).run P w = .ok (.tuple #[v, u]) w := by
  have h1 := h.run
  have h2 := h'.run
  unfold resD
  rw [hr]
  simp [Sem.run_bind, h1, h2]
theorem resD_zero {P : Program} {s : Fs} {w : World} {fn : Func} (hr : fn.results = #[]) : (resD fn s).run P w = .ok (.tuple #[]) w := by
  unfold resD
  rw [hr]
  simp
theorem resS_of {P : Program} {s : Fs} {w : World} {fn : Func} {v : Value} (hd : s.d = []) (h : (resD fn s).run P w = .ok v w) : (resS fn s).run P w = .ok v w := by
  unfold resS
  rw [hd]
  exact h

/-! ### rounds over chunks that hang on a ghost value -/
/-- A loop's record, and chunks of some x for which F holds. -/
def YA {G : Type} (l : Nat) (rc : Loop) (F : G → Prop) (Hs : G → List Asn) : Asn := exA F (fun x => blk l (.loop rc) :: Hs x)

theorem sep_exA {G : Type} {B : Nat} {w : World} {l : List Nat} {F : G → Prop} {Hs : G → List Asn} (x : G) (hF : F x) (h : Sep B w (Hs x) l) : Sep B w [exA F Hs] l :=
  ⟨l, [], ⟨x, hF, h⟩, fun b => by simp, fun b _ => by simp, by simp⟩

def jumpOf : Exit → Option Code
  | .ret => some .ret
  | .exit id => some (.exit id)
  | _ => none

/-- how a round's body ends. -/
def rq {G GZ : Type} (B : Nat) (w : World) (lf : List Nat) (l : Nat) (rc : Loop) (F' : G → Prop) (Hs : G → List Asn) (c : Code) (FZ : GZ → Prop) (HsZ : GZ → List Asn) : Exit → Fs → World → Prop
  | .normal, _, w3 => ∃ x, F' x ∧ St B w lf w3 (blk l (.loop { rc with state := .busy }) :: Hs x)
  | e, _, w3 => jumpOf e = some c ∧ ∃ z, FZ z ∧ St B w lf w3 (blk l (.loop { rc with state := .busy }) :: HsZ z)

theorem yspec_ghost {G GZ : Type} {P : Program} {B : Nat} {w : World} {l : Nat} {rc : Loop} {args : Array Value} {F F' : G → Prop} {Hs : G → List Asn} {c : Code} {FZ : GZ → Prop} {HsZ : GZ → List Asn}
    (hst : rc.state = .ready) (hpe : rc.pending = none) (hsz : args.size = rc.params.size)
    (s0 : Fs) (hs0 : Rel ⟨(rc.params.zip args).foldl (fun tmps (t, a) => tmps.setIfInBounds t a) rc.tmps, []⟩ s0) (hr0 : s0.r = some l)
    (walk : ∀ x, F x → ∀ lf, St B w lf w (blk l (.loop rc) :: Hs x) → ∀ K : Fs → World → Prop, (∀ s' w1, St B w lf w1 (blk l (.loop rc) :: Hs x) →
      (∀ w2, St B w lf w2 (blk l (.loop { rc with state := .busy }) :: Hs x) → W P rc.body s' w2 (rq B w lf l rc F' Hs c FZ HsZ)) → K s' w1) → W P rc.assign s0 w (seqQ K (fun _ _ _ => False))) :
    YSpec P l args B w [YA l rc F Hs] (fun v H' => (v = .bool true ∧ H' = [YA l rc F' Hs]) ∨ (v = .bool false ∧ H' = [YA l { rc with state := .done, pending := some c } FZ HsZ])) := by
  intro lf hB hsep
  obtain ⟨l1, l2, ⟨x, hF, h1⟩, h2, hd, hm⟩ := hsep
  have hmm : ∀ b, b ∈ lf ↔ b ∈ l1 := fun b => by rw [hm b]; exact ⟨fun h => h.resolve_right (h2 b), .inl⟩
  have key := yspec_round (P := P) (B := B) (w := w) (Y := Hs x) (args := args) (post := fun v H' =>
      (∃ x', F' x' ∧ v = .bool true ∧ H' = blk l (.loop rc) :: Hs x') ∨ (∃ z, FZ z ∧ v = .bool false ∧ H' = blk l (.loop { rc with state := .done, pending := some c }) :: HsZ z)) hst hsz s0 hs0 hr0 (by
    intro lf' hs K hK
    refine walk x hF lf' hs K fun s' w1 h3 h4 => hK s' w1 h3 fun w2 h5 => (h4 w2 h5).mono ?_
    intro e s3 w3 hq
    have hrc : ({ rc with state := .ready, pending := none } : Loop) = rc := by cases rc; simp_all
    cases e with
    | normal =>
      obtain ⟨x', hF', h6⟩ := hq
      exact ⟨_, h6, .inl ⟨x', hF', rfl, by rw [hrc]⟩⟩
    | ret =>
      obtain ⟨hj, z, hz, h6⟩ := hq
      simp only [jumpOf, Option.some.injEq] at hj
      subst hj
      exact ⟨_, h6, .inr ⟨z, hz, rfl, rfl⟩⟩
    | exit id =>
      obtain ⟨hj, z, hz, h6⟩ := hq
      simp only [jumpOf, Option.some.injEq] at hj
      subst hj
      exact ⟨_, h6, .inr ⟨z, hz, rfl, rfl⟩⟩
    | goto t => obtain ⟨hj, _⟩ := hq; cases hj
    | panic t => obtain ⟨hj, _⟩ := hq; cases hj
    | outgrown => obtain ⟨hj, _⟩ := hq; cases hj)
  obtain ⟨f, tmps, assign, body, hy, hrd⟩ := key l1 hB h1
  refine ⟨f, tmps, assign, body, hy, RoundIn.mono hrd ?_⟩
  rintro e w' ⟨v, rfl, H', l', hp, hs', hu⟩
  have hu' : Upd w w' lf l' := ⟨hu.os, hu.tape, hu.output, hu.size, fun b hb hn => hu.block b hb fun h => hn ((hmm b).2 h), fun b hb => (hu.foot b hb).imp (fun h => (hmm b).2 h) id⟩
  rcases hp with ⟨x', hF', rfl, rfl⟩ | ⟨z, hz, rfl, rfl⟩
  · exact ⟨_, rfl, _, l', .inl ⟨rfl, rfl⟩, sep_exA x' hF' hs', hu'⟩
  · exact ⟨_, rfl, _, l', .inr ⟨rfl, rfl⟩, sep_exA z hz hs', hu'⟩

theorem W.rounds {G GZ : Type} {P : Program} {s : Fs} {w : World} {Q : Exit → Fs → World → Prop} {B : Nat} {w0 : World} {l0 : List Nat} {g : Operand} {ps : Array Tmp} {assign body : Code} {gf : Nat} {lb : Array Value}
    (n : Nat) (F : Nat → G → Prop) (Hs : G → List Asn) (c : Code) (FZ : GZ → Prop) (HsZ : GZ → List Asn) (own : List Asn) (enc : Nat → Array Value) (s0 : Nat → Nat → Fs) (x0 : G) (h0 : F 0 x0)
    (hs : St B w0 l0 w (own ++ Hs x0)) (hr : s.r = none) (hg : evS s g = .func (.func gf) #[] lb) (hf : ∀ args w, (callFunc gf args).run P w = .ok (.enter gf args) w) (hsz : ∀ k, (enc k).size = ps.size)
    (hrel : ∀ (a : Array Value) (k l : Nat), a.size = s.n → (∀ i, a.getD i undef = s.f i) → Rel ⟨(ps.zip (enc k)).foldl (fun tmps (t, a) => tmps.setIfInBounds t a) a, []⟩ (s0 k l) ∧ (s0 k l).r = some l)
    (iter : ∀ (l : Nat) (w1 : World) (Y : Nat → Asn) (Z : Asn), (∀ k, k < n → ∀ w', YSpec P l (enc k) B w' [Y k] (fun v H' => (v = .bool true ∧ H' = [Y (k + 1)]) ∨ (v = .bool false ∧ H' = [Z]))) →
      Spec P gf (#[.func (.yield l) #[] #[]] ++ lb) B w1 (own ++ [Y 0]) (fun v H' => v = .tuple #[] ∧ (H' = own ++ [Y n] ∨ H' = own ++ [Z])))
    (round : ∀ (k : Nat), k < n → ∀ (rc : Loop) (l : Nat) (w' : World) (x : G), F k x → ∀ lf, St B w' lf w' (blk l (.loop rc) :: Hs x) → ∀ K : Fs → World → Prop, (∀ s' w1, St B w' lf w1 (blk l (.loop rc) :: Hs x) →
      (∀ w2, St B w' lf w2 (blk l (.loop { rc with state := .busy }) :: Hs x) → W P body s' w2 (rq B w' lf l rc (F (k + 1)) Hs c FZ HsZ)) → K s' w1) → W P assign (s0 k l) w' (seqQ K (fun _ _ _ => False)))
    (done : ∀ D w3 x, F n x → St B w0 l0 w3 (blk D (.deferred (some [])) :: (own ++ Hs x)) → Q .normal (s.mark D) w3)
    (jump : ∀ D w3 z, FZ z → St B w0 l0 w3 (blk D (.deferred (some [])) :: (own ++ HsZ z)) → W P c (s.mark D) w3 Q) : W P (.rangeFunc g ps assign body) s w Q := by
  refine W.rangeFunc (pre := own ++ Hs x0) (R := []) (post := fun rc l v H' => v = .tuple #[] ∧ ((∃ x, F n x ∧ H' = blk l (.loop rc) :: (own ++ Hs x)) ∨ (∃ z, FZ z ∧ H' = blk l (.loop { rc with state := .done, pending := some c }) :: (own ++ HsZ z))) ∧ rc.state = .ready ∧ rc.pending = none) (by simpa using hs) hr hg hf ?_ ?_
  · intro rc l w1 h1 h2 h3 h4 h5 h6 h7 hs1
    have hyy : ∀ k, k < n → ∀ w', YSpec P l (enc k) B w' [YA l rc (F k) Hs] (fun v H' => (v = .bool true ∧ H' = [YA l rc (F (k + 1)) Hs]) ∨ (v = .bool false ∧ H' = [YA l { rc with state := .done, pending := some c } FZ HsZ])) := by
      intro k hk w'
      obtain ⟨hrl, hrr⟩ := hrel rc.tmps k l h1 h2
      rw [← h5] at hrl
      refine yspec_ghost h3 h4 (by rw [h5]; exact hsz k) (s0 k l) hrl hrr ?_
      intro x hF lf hs2
      have hw := round k hk rc l w' x hF lf hs2
      rw [← h6, ← h7] at hw
      exact hw
    have hit := iter l w1 (fun k => YA l rc (F k) Hs) (YA l { rc with state := .done, pending := some c } FZ HsZ) hyy
    intro lf hB hsep
    have st1 : St B w1 lf w1 (blk l (.loop rc) :: (own ++ Hs x0)) := St.begin hB hsep
    have hp1 : (blk l (.loop rc) :: (own ++ Hs x0)).Perm (blk l (.loop rc) :: Hs x0 ++ own) := by
      simp only [List.cons_append]
      exact List.Perm.cons _ List.perm_append_comm
    have st2 := St.close (F := F 0) (Hs := fun x => blk l (.loop rc) :: Hs x) x0 h0 (st1.perm hp1)
    have st3 : St B w1 lf w1 (own ++ [YA l rc (F 0) Hs]) := st2.perm (List.perm_append_singleton _ _).symm
    have st4 : St B w1 lf w1 ((own ++ [YA l rc (F 0) Hs]) ++ []) := by simpa using st3
    obtain ⟨l1, s1, key⟩ := st4.part
    refine Calls.mono (hit l1 hB s1) ?_
    rintro e w3 ⟨v, rfl, H', l', ⟨rfl, hp⟩, hsep', hu⟩
    have fin : ∀ {G' : Type} (rc' : Loop) (F' : G' → Prop) (Hs' : G' → List Asn), H' = own ++ [YA l rc' F' Hs'] → ∃ x, F' x ∧ St B w1 lf w3 (blk l (.loop rc') :: (own ++ Hs' x)) := by
      intro G' rc' F' Hs' hH
      subst hH
      have st5 := key w3 _ l' hsep' hu
      have st6 : St B w1 lf w3 (YA l rc' F' Hs' :: own) := by
        have : ((own ++ [YA l rc' F' Hs']) ++ []).Perm (YA l rc' F' Hs' :: own) := by rw [List.append_nil]; exact List.perm_append_singleton (YA l rc' F' Hs') own
        exact st5.perm this
      obtain ⟨x, hF, st7⟩ := St.open (F := F') (Hs := fun x => blk l (.loop rc') :: Hs' x) st6
      refine ⟨x, hF, st7.perm ?_⟩
      simp only [List.cons_append]
      exact List.Perm.cons _ List.perm_append_comm
    rcases hp with hp | hp
    · obtain ⟨x, hF, _, _, l5, h8, h9⟩ := fin _ _ _ hp
      exact ⟨_, rfl, _, l5, ⟨rfl, .inl ⟨x, hF, rfl⟩, h3, h4⟩, h8, h9⟩
    · obtain ⟨z, hz, _, _, l5, h8, h9⟩ := fin _ _ _ hp
      exact ⟨_, rfl, _, l5, ⟨rfl, .inr ⟨z, hz, rfl⟩, h3, h4⟩, h8, h9⟩
  · rintro rc l v H' ⟨rfl, hp, h3, h4⟩
    rcases hp with ⟨x, hF, rfl⟩ | ⟨z, hz, rfl⟩
    · refine ⟨rc, own ++ Hs x, (fun h => by have h' := h3.symm.trans h; cases h'), rfl, rfl, fun w3 hs3 => ?_⟩
      rw [h4]
      exact done _ w3 x hF (by simpa using hs3)
    · refine ⟨{ rc with state := .done, pending := some c }, own ++ HsZ z, (fun h => by cases h), rfl, rfl, fun w3 hs3 => ?_⟩
      exact jump _ w3 z hz (by simpa using hs3)

/-- a round's slots: the loop's variables put over what the frame had. -/
theorem rel_round1 {n : Nat} {L : List (Nat × Value)} {us : Nat → Value} {l p : Nat} {v : Value} (hp : p < n) {a : Array Value} (h1 : a.size = n) (h2 : ∀ i, a.getD i undef = look L i (us i)) :
    Rel ⟨((#[p] : Array Tmp).zip #[v]).foldl (fun tmps (t, a) => tmps.setIfInBounds t a) a, []⟩ (slotsD n ((p, v) :: L) us (some l) []) := by
  have h := rel_set h1 h2 hp v
  have e : ((#[p] : Array Tmp).zip #[v]).foldl (fun tmps (t, a) => tmps.setIfInBounds t a) a = a.setIfInBounds p v := by simp [Array.zip]
  rw [e]
  exact ⟨⟨h.1, rfl⟩, h.2⟩
theorem rel_round2 {n : Nat} {L : List (Nat × Value)} {us : Nat → Value} {l p q : Nat} {v u : Value} (hp : p < n) (hq : q < n) {a : Array Value} (h1 : a.size = n) (h2 : ∀ i, a.getD i undef = look L i (us i)) :
    Rel ⟨((#[p, q] : Array Tmp).zip #[v, u]).foldl (fun tmps (t, a) => tmps.setIfInBounds t a) a, []⟩ (slotsD n ((q, u) :: (p, v) :: L) us (some l) []) := by
  have h := rel_set h1 h2 hp v
  have h' := rel_set h.1 h.2 hq u
  have e : ((#[p, q] : Array Tmp).zip #[v, u]).foldl (fun tmps (t, a) => tmps.setIfInBounds t a) a = (a.setIfInBounds p v).setIfInBounds q u := by simp [Array.zip]
  rw [e]
  exact ⟨⟨h'.1, rfl⟩, h'.2⟩

/-- rounds by number. -/
def rounds {σ ρ : Type} (body : Nat → (σ → Option ρ) → σ → Option ρ) (done : σ → Option ρ) : Nat → Nat → σ → Option ρ
  | 0, _, s => done s
  | m + 1, k, s => body k (rounds body done m (k + 1)) s
theorem rounds_at {σ ρ : Type} {body : Nat → (σ → Option ρ) → σ → Option ρ} {done : σ → Option ρ} {n k : Nat} (hk : k < n) (s : σ) : rounds body done (n - k) k s = body k (rounds body done (n - (k + 1)) (k + 1)) s := by
  obtain ⟨m, hm⟩ : ∃ m, n - k = m + 1 := ⟨n - k - 1, by omega⟩
  rw [hm, show n - (k + 1) = m by omega]
  rfl
theorem rounds_end {σ ρ : Type} {body : Nat → (σ → Option ρ) → σ → Option ρ} {done : σ → Option ρ} {n : Nat} (s : σ) : rounds body done (n - n) n s = done s := by
  rw [Nat.sub_self]
  rfl

/-! ### what stood when a function began -/
/-- All below B is as it was in w0. -/
def keepA (w0 : World) : Asn where
  P B w l := l = [] ∧ w0.heap.size = B ∧ B ≤ w.heap.size ∧ ∀ b, b < B → w.heap[b]? = w0.heap[b]?
  stable := by
    rintro B w w' l ⟨rfl, h0, h1, h2⟩ hz hb
    exact ⟨rfl, h0, Nat.le_trans h1 hz, fun b hlt => (hb b (Nat.lt_of_lt_of_le hlt h1) (.inl hlt)).trans (h2 b hlt)⟩
  low := by
    rintro B w l ⟨rfl, _⟩ c hc
    simp at hc

def Kept (w0 w : World) : Prop := ∀ b, b < w0.heap.size → w.heap[b]? = w0.heap[b]?
theorem keepA_at {w0 : World} {B : Nat} {w : World} {l : List Nat} (h : (keepA w0).P B w l) : Kept w0 w := by
  obtain ⟨_, h0, _, h2⟩ := h
  intro b hb
  exact h2 b (by omega)
theorem Kept.blk {w0 w : World} (h : Kept w0 w) {b : Nat} {o : Obj} (hb : w0.heap[b]? = some o) : w.heap[b]? = some o := by
  rw [h b (Array.getElem?_eq_some_iff.1 hb).1]; exact hb
theorem Kept.cell {w0 w : World} (h : Kept w0 w) {ad : Addr} {v : Value} (hc : w0.cell? ad = some v) : w.cell? ad = some v := by
  have hb := World.block_lt_of_cell? w0 ad hc
  rw [World.cell?_of_block (w := w0) (h ad.block hb)]
  exact hc
theorem Kept.cells {w0 w : World} (h : Kept w0 w) {a : Option Addr} {cs : List Value} (hc : CellsAt a cs w0) : CellsAt a cs w := by
  cases a with
  | none => exact hc
  | some ad => exact fun j v hv => h.cell (hc j v hv)
theorem Kept.map {w0 w : World} (h : Kept w0 w) {b : Nat} {l : List (Int × Int)} (hm : MapAt b l w0) : MapAt b l w := by
  obtain ⟨es, clock, hb, he⟩ := hm
  exact ⟨es, clock, h.blk hb, he⟩
theorem Kept.view {w0 w : World} (h : Kept w0 w) {p : Value} {img : List Int} {l : List (Int × Int)} (hv : ViewAt p img l w0) : ViewAt p img l w := by
  obtain ⟨x, h1, h2, h3, h4, h5, h6, h7⟩ := hv
  exact ⟨x, h1, h2, h.blk h3, h.cells h4, h.map h5, h.cells h6, h7⟩
theorem Kept.ref {w0 w : World} (h : Kept w0 w) {p : Value} {img : List Int} {l : List (Int × Int)} (hv : RefAt p img l w0) : RefAt p img l w := by
  obtain ⟨x, h1, h2, h3, h4, h5, h6⟩ := hv
  exact ⟨x, h1, h2, h.blk h3, h.cells h4, h.cells h5, h6⟩
theorem St.kept {B : Nat} {w0 w w00 : World} {l0 : List Nat} {H : List Asn} (hs : St B w0 l0 w H) (j : Nat) (hj : H[j]? = some (keepA w00)) : Kept w00 w := hs.entAt j hj keepA_at

/-- A function that owns nothing, and hands nothing back: all that stood is kept. -/
theorem spec_K {P : Program} {f : FuncId} {fn : Func} {c : Code} {args : Array Value} {B : Nat} {w : World} {post : Value → Prop} (hf : P.funcs[f]? = some fn) (hb : fn.body = some c)
    (h : ∀ B', B' = w.heap.size → St B' w [] w [keepA w] → W P c (initF fn.ntmps args) w (retQ P fn fun v w' => post v ∧ St B' w [] w' [])) : Spec P f args B w [] (fun v H' => post v ∧ H' = []) := by
  intro l hB hs
  have hl : l = [] := List.eq_nil_iff_forall_not_mem.2 hs
  subst hl
  have h0 : St w.heap.size w [] w [keepA w] := St.begin (Nat.le_refl _) ⟨[], [], ⟨rfl, rfl, Nat.le_refl _, fun _ _ => rfl⟩, fun b => by simp, fun b _ => by simp, by simp⟩
  refine (calls_W hf hb (h _ rfl h0)).mono ?_
  rintro e w' ⟨v, rfl, hp, _, _, l', hs', hu⟩
  exact ⟨v, rfl, [], l', ⟨hp, rfl⟩, hs', hu⟩

/-- A chunk that is there twice (it has no blocks). -/
theorem St.keep2 {B : Nat} {w0 w w00 : World} {l0 : List Nat} {R : List Asn} (hs : St B w0 l0 w (keepA w00 :: R)) : St B w0 l0 w (keepA w00 :: keepA w00 :: R) :=
  St.to (post := [keepA w00, keepA w00]) hs fun l h => by
    have hl : l = [] := h.1
    subst hl
    exact ⟨[], [], h, ⟨[], [], h, fun b => by simp, fun b _ => by simp, by simp⟩, fun b _ => by simp, by simp⟩
end Go.Proofs.YthimamnblklkbaaDoor

/- Rounds, the iterator's arguments told. -/
namespace Go.Proofs.YthimamnblklkbaaDoor
open Go Go.RowKit

theorem W.roundsA {G GZ : Type} {P : Program} {s : Fs} {w : World} {Q : Exit → Fs → World → Prop} {B : Nat} {w0 : World} {l0 : List Nat} {g : Operand} {ps : Array Tmp} {assign body : Code} {gf : Nat} {lb : Array Value}
    (n : Nat) (F : Nat → G → Prop) (Hs : G → List Asn) (c : Code) (FZ : GZ → Prop) (HsZ : GZ → List Asn) (own : List Asn) (enc : Nat → Array Value) (s0 : Nat → Nat → Fs) (x0 : G) (h0 : F 0 x0)
    (hs : St B w0 l0 w (own ++ Hs x0)) (hr : s.r = none) (hg : evS s g = .func (.func gf) #[] lb) (hf : ∀ args w, (callFunc gf args).run P w = .ok (.enter gf args) w) (hsz : ∀ k, (enc k).size = ps.size)
    (hrel : ∀ (a : Array Value) (k l : Nat), a.size = s.n → (∀ i, a.getD i undef = s.f i) → Rel ⟨(ps.zip (enc k)).foldl (fun tmps (t, a) => tmps.setIfInBounds t a) a, []⟩ (s0 k l) ∧ (s0 k l).r = some l)
    (ar : Nat → Array Value) (har : ∀ l, #[.func (.yield l) #[] #[]] ++ lb = ar l)
    (iter : ∀ (l : Nat) (w1 : World) (Y : Nat → Asn) (Z : Asn), (∀ k, k < n → ∀ w', YSpec P l (enc k) B w' [Y k] (fun v H' => (v = .bool true ∧ H' = [Y (k + 1)]) ∨ (v = .bool false ∧ H' = [Z]))) →
      Spec P gf (ar l) B w1 (own ++ [Y 0]) (fun v H' => v = .tuple #[] ∧ (H' = own ++ [Y n] ∨ H' = own ++ [Z])))
    (round : ∀ (k : Nat), k < n → ∀ (rc : Loop) (l : Nat) (w' : World) (x : G), F k x → ∀ lf, St B w' lf w' (blk l (.loop rc) :: Hs x) → ∀ K : Fs → World → Prop, (∀ s' w1, St B w' lf w1 (blk l (.loop rc) :: Hs x) →
      (∀ w2, St B w' lf w2 (blk l (.loop { rc with state := .busy }) :: Hs x) → W P body s' w2 (rq B w' lf l rc (F (k + 1)) Hs c FZ HsZ)) → K s' w1) → W P assign (s0 k l) w' (seqQ K (fun _ _ _ => False)))
    (done : ∀ D w3 x, F n x → St B w0 l0 w3 (blk D (.deferred (some [])) :: (own ++ Hs x)) → Q .normal (s.mark D) w3)
    (jump : ∀ D w3 z, FZ z → St B w0 l0 w3 (blk D (.deferred (some [])) :: (own ++ HsZ z)) → W P c (s.mark D) w3 Q) : W P (.rangeFunc g ps assign body) s w Q :=
  W.rounds n F Hs c FZ HsZ own enc s0 x0 h0 hs hr hg hf hsz hrel (fun l w1 Y Z hy => by rw [har l]; exact iter l w1 Y Z hy) round done jump
end Go.Proofs.YthimamnblklkbaaDoor

/- Code as a plain function of what it is given: what may fail is none; loops by rounds; where ways meet. -/
namespace Go.Proofs.YthimamnblklkbaaDoor
open Go Go.RowKit

/-- x, where p holds. -/
def need {α : Type} (p : Prop) [Decidable p] (x : Option α) : Option α := if p then x else none
theorem need_some {α : Type} {p : Prop} {inst : Decidable p} {x : Option α} {r : α} (h : @need α p inst x = some r) : p ∧ x = some r := by
  unfold need at h
  split at h
  · rename_i hp; exact ⟨hp, h⟩
  · cases h
theorem need_of {α : Type} {p : Prop} {inst : Decidable p} {x y : Option α} (hp : p) (h : x = y) : @need α p inst x = y := by
  unfold need; rw [if_pos hp]; exact h
theorem ite_yes {α : Type} {p : Prop} {inst : Decidable p} {a b x : α} (e : @ite α p inst a b = x) (h : p) : a = x := by rw [if_pos h] at e; exact e
theorem ite_no {α : Type} {p : Prop} {inst : Decidable p} {a b x : α} (e : @ite α p inst a b = x) (h : ¬ p) : b = x := by rw [if_neg h] at e; exact e
theorem ite_both {α : Type} {p : Prop} {inst : Decidable p} {a b x : α} (h1 : p → a = x) (h2 : ¬ p → b = x) : @ite α p inst a b = x := by
  by_cases h : p
  · rw [if_pos h]; exact h1 h
  · rw [if_neg h]; exact h2 h
theorem bind_some {α β : Type} {o : Option α} {f : α → Option β} {r : β} (h : o.bind f = some r) : ∃ y, o = some y ∧ f y = some r := by
  cases o with
  | none => cases h
  | some y => exact ⟨y, rfl, h⟩
theorem bind_of {α β : Type} {o : Option α} {f : α → Option β} {y : α} {r : Option β} (h : o = some y) (h2 : f y = r) : o.bind f = r := by
  subst h; exact h2

/-- rounds, at most n. -/
def iter {σ ρ : Type} (body : (σ → Option ρ) → σ → Option ρ) : Nat → σ → Option ρ
  | 0, _ => none
  | n + 1, s => body (iter body n) s
def FUEL : Nat := 18446744073709551616

/-- rounds by what holds at each round's head, and a number that falls. -/
theorem iter_run {σ ρ : Type} {body : (σ → Option ρ) → σ → Option ρ} {r : ρ} (I : σ → Prop) (μ : σ → Nat) (step : ∀ (k : σ → Option ρ) (s : σ), I s → (∀ s', I s' → μ s' < μ s → k s' = some r) → body k s = some r) :
    ∀ (n : Nat) (s : σ), I s → μ s < n → iter body n s = some r := by
  intro n
  induction n with
  | zero => intro s _ h; omega
  | succ n ih =>
    intro s hs hm
    exact step _ s hs fun s' hs' hlt => ih s' hs' (by omega)

/-! ### what a plain function comes to -/
/-- x is there, and R holds of it. -/
def Ok {ρ : Type} (R : ρ → Prop) (x : Option ρ) : Prop := ∃ r, x = some r ∧ R r
section
variable {α ρ σ : Type} {R : ρ → Prop}
theorem Ok.some {r : ρ} (h : R r) : Ok R (some r) := ⟨r, rfl, h⟩
theorem Ok.need {p : Prop} {inst : Decidable p} {x : Option ρ} (hp : p) (h : Ok R x) : Ok R (@Go.Proofs.YthimamnblklkbaaDoor.need ρ p inst x) := by
  obtain ⟨r, hx, hr⟩ := h
  exact ⟨r, need_of hp hx, hr⟩
theorem Ok.bind {S : α → Prop} {o : Option α} {f : α → Option ρ} (h : Ok S o) (hf : ∀ y, S y → Ok R (f y)) : Ok R (o.bind f) := by
  obtain ⟨y, rfl, hy⟩ := h
  exact hf y hy
/-- a name for an answer. -/
theorem Ok.name {e : α} {f : α → Option ρ} (hf : ∀ y, y = e → Ok R (f y)) : Ok R ((Option.some e).bind f) := hf e rfl
theorem Ok.ite {p : Prop} {inst : Decidable p} {a b : Option ρ} (h1 : p → Ok R a) (h2 : ¬ p → Ok R b) : Ok R (@_root_.ite (Option ρ) p inst a b) := by
  by_cases h : p
  · rw [if_pos h]; exact h1 h
  · rw [if_neg h]; exact h2 h
theorem Ok.yes {p : Prop} {inst : Decidable p} {a b : Option ρ} (h : p) (h1 : Ok R a) : Ok R (@_root_.ite (Option ρ) p inst a b) := by rw [if_pos h]; exact h1
theorem Ok.no {p : Prop} {inst : Decidable p} {a b : Option ρ} (h : ¬ p) (h1 : Ok R b) : Ok R (@_root_.ite (Option ρ) p inst a b) := by rw [if_neg h]; exact h1
theorem Ok.mono {R' : ρ → Prop} {x : Option ρ} (h : Ok R x) (hr : ∀ r, R r → R' r) : Ok R' x := let ⟨r, h1, h2⟩ := h; ⟨r, h1, hr r h2⟩
theorem Ok.true {x : Option Bool} (h : Ok (· = true) x) : x = Option.some true := by
  obtain ⟨r, h1, h2⟩ := h
  rw [h1, h2]
/-- rounds, by what holds at each round's head, and a number that falls. -/
theorem Ok.iter {body : (σ → Option ρ) → σ → Option ρ} (I : σ → Prop) (μ : σ → Nat) (step : ∀ (k : σ → Option ρ) (s : σ), I s → (∀ s', I s' → μ s' < μ s → Ok R (k s')) → Ok R (body k s)) :
    ∀ (n : Nat) (s : σ), I s → μ s < n → Ok R (Go.Proofs.YthimamnblklkbaaDoor.iter body n s) := by
  intro n
  induction n with
  | zero => intro s _ h; omega
  | succ n ih =>
    intro s hs hm
    exact step _ s hs fun s' hs' hlt => ih s' hs' (by omega)
end
theorem fuel_lt {n : Nat} (h : n < 18446744073709551616) : n < FUEL := h

section
variable {P : Program} {c x y : Code} {s : Fs} {w : World} {Q : Exit → Fs → World → Prop}

theorem W.seq_join (J : Fs → World → Prop) (hy : ∀ s w, J s w → W P y s w Q) (hx : W P x s w (seqQ J Q)) : W P (.seq x y) s w Q := by
  refine W.seq fun K hK => hx.mono ?_
  intro e s w h
  cases e with
  | normal => exact hK _ _ (hy _ _ h)
  | _ => exact h

/-- the slots written out. -/
theorem W.norm {n : Nat} {l : List (Nat × Value)} (h : ((s.n, s.r, s.d), l.map fun p => s.f p.1) = ((n, none, []), l.map (·.2))) (hk : ∀ us, W P c (slots n l us) w Q) : W P c s w Q := by
  obtain ⟨us, rfl⟩ := slots_intro s h
  exact hk us

theorem W.loop_iter {G σ ρ : Type} {body : (σ → Option ρ) → σ → Option ρ} {r : ρ} {n : Nat} (T : G → σ) (J : G → Fs → World → Prop) (g : G) (h0 : J g s w) (hm : iter body n (T g) = some r)
    (round : ∀ k : σ → Option ρ, (∀ g s w, J g s w → k (T g) = some r → LoopAt P c Q s w) → ∀ g s w, J g s w → body k (T g) = some r → W P c s w (seqQ (fun s' w' => LoopAt P c Q s' w') Q)) : W P (.loop c) s w Q := by
  refine W.loop_start ?_
  have key : ∀ (n : Nat) (g : G) (s : Fs) (w : World), J g s w → iter body n (T g) = some r → LoopAt P c Q s w := by
    intro n
    induction n with
    | zero => intro g s w _ h; cases h
    | succ n ih =>
      intro g s w hj h
      exact loopAt_round (round _ ih g s w hj h)
  exact key n g s w h0 hm
end

theorem wrap_u16 {z : Int} (h1 : 0 ≤ z) (h2 : z < 65536) : IntKind.u16.wrap z = z := by
  have e : (2 : Int) ^ IntKind.u16.bits = 65536 := by decide
  unfold IntKind.wrap
  simp only [e, IntKind.signed, Bool.false_and, Bool.false_eq_true, if_false]
  omega
theorem wrap_u32 {z : Int} (h1 : 0 ≤ z) (h2 : z < 4294967296) : IntKind.u32.wrap z = z := by
  have e : (2 : Int) ^ IntKind.u32.bits = 4294967296 := by decide
  unfold IntKind.wrap
  simp only [e, IntKind.signed, Bool.false_and, Bool.false_eq_true, if_false]
  omega
theorem wrap_u8_mod (z : Int) : IntKind.u8.wrap z = z % 256 := by
  have e : (2 : Int) ^ IntKind.u8.bits = 256 := by decide
  unfold IntKind.wrap
  simp only [e, IntKind.signed, Bool.false_and, Bool.false_eq_true, if_false]

theorem nat_of {z : Int} (h : 0 ≤ z) : z = ((z.toNat : Nat) : Int) := (Int.toNat_of_nonneg h).symm
theorem lt_toNat {z : Int} {n : Nat} (h : 0 ≤ z ∧ z < (n : Int)) : z.toNat < n := by omega
theorem le_toNat {z : Int} {n : Nat} (h : 0 ≤ z ∧ z ≤ (n : Int)) : z.toNat ≤ n := by omega
theorem take_len {α : Type} {l : List α} {z : Int} (h : 0 ≤ z ∧ z ≤ (l.length : Int)) : z.toNat = (l.take z.toNat).length := by rw [List.length_take]; omega
theorem St.kprefix {α : Type} (K : Kind α) (m : Nat) {B : Nat} {w0 w : World} {l0 : List Nat} {R : List Asn} {a : Option Addr} {c : Nat} {l : List α} (hs : St B w0 l0 w (K.row a c l :: R)) : St B w0 l0 w (K.row a c (l.take m) :: R) := by
  refine St.conv hs ?_
  rintro f _ ⟨⟨h1, h2⟩, rfl⟩
  have hlen : (K.cells (l.take m)).length = (l.take m).length * K.size := K.length _
  have hle : (l.take m).length ≤ l.length := by rw [List.length_take]; omega
  rcases h2 with ⟨hv, h0⟩ | ⟨g, cap, cur, hv, hB, hg, hnc, hcm, hcs, htake⟩
  · have : l = [] := List.eq_nil_of_length_eq_zero h0
    subst this
    simp only [Value.slice.injEq] at hv
    obtain ⟨rfl, _, rfl⟩ := hv
    refine ⟨⟨hlen, .inl ⟨by simp, by simp⟩⟩, rfl⟩
  · cases hv
    refine ⟨⟨hlen, .inr ⟨g, c, cur, rfl, hB, hg, by omega, hcm, hcs, ?_⟩⟩, rfl⟩
    have e : K.cells l = K.cells (l.take m) ++ K.cells (l.drop m) := by rw [← K.cells_append, List.take_append_drop]
    have h3 : (cur.toList.take (l.length * K.size)).take ((l.take m).length * K.size) = K.cells (l.take m) := by
      rw [htake, e, ← hlen, List.take_left]
    rw [← h3, List.take_take, Nat.min_eq_left (Nat.mul_le_mul_right _ hle)]
theorem some_inj {α : Type} {a b : α} (h : some a = some b) : a = b := Option.some.inj h
/-- the element at a place. -/
abbrev elem {α : Type} (l : List α) (z : Int) (d : α) : α := l.getD z.toNat d
end Go.Proofs.YthimamnblklkbaaDoor

/- Shifts, and bits of words. -/
namespace Go.Proofs.YthimamnblklkbaaDoor
open Go Go.RowKit

def shlK (k : IntKind) (x y : Int) : Int := k.wrap (x * 2 ^ (min y.toNat k.bits))
def shrK (k : IntKind) (x y : Int) : Int := x.fdiv (2 ^ (min y.toNat k.bits))

section
variable {P : Program} {ops : Array Oper} {i : Nat} {s : Fs} {w : World}

/-- a shift: left?, its kind, what is shifted, how far. -/
def shQ (ops : Array Oper) (i : Nat) (s : Fs) : Option (Bool × IntKind × Int × Int) :=
  match opQ ops i s with
  | some o => match o.op with
    | .binOp op _ x y _ => match op, evS s x, evS s y with
      | .shl, .int k a, .int _ b => some (true, k, a, b)
      | .shr, .int k a, .int _ b => some (false, k, a, b)
      | _, _, _ => none
    | _ => none
  | none => none

theorem run_guard_none (op : BinOp) (t : TypeId) (x y : Operand) (a b : Value) (h : op = .shl ∨ op = .shr) (w : World) : (eqGuard op t x y a b).run P w = .ok () w := by
  unfold eqGuard
  rcases h with rfl | rfl <;> rfl

theorem runs_shift {b : Bool} {k : IntKind} {x y : Int} (hq : shQ ops i s = some (b, k, x, y)) (hy : 0 ≤ y) : RunsTo P ops i s w (.int k (match b with | true => shlK k x y | false => shrK k x y)) w := by
  unfold shQ at hq
  split at hq
  · rename_i o ho
    split at hq
    · rename_i op t x' y' yt hop
      refine ⟨o, ho, ?_⟩
      split at hq
      · rename_i k1 a1 k2 b1 hx hy'
        cases hq
        simp only [execOp, hop, hx, hy', Sem.run_bind, run_guard_none _ _ _ _ _ _ (.inl rfl), Result.andThen_ok, binOp, Op.shift, if_neg (Int.not_lt.2 hy), Sem.run_pure]
        rfl
      · rename_i k1 a1 k2 b1 hx hy'
        cases hq
        simp only [execOp, hop, hx, hy', Sem.run_bind, run_guard_none _ _ _ _ _ _ (.inr rfl), Result.andThen_ok, binOp, Op.shift, if_neg (Int.not_lt.2 hy), Sem.run_pure]
        rfl
      · cases hq
    · cases hq
  · cases hq
end
end Go.Proofs.YthimamnblklkbaaDoor

/- Drawn regions where two operations may come up. -/
namespace Go.Proofs.YthimamnblklkbaaDoor
open Go Go.RowKit

section
variable {M : Bool} {P : Program} {ops : Array Oper} {T : List (Nat × Nat)} {S : World → Prop} {s : Fs} {w : World} {K : Fs → World → Prop}

theorem any_step2 (i j : Nat) {fuel : Nat} {L : Nat} (hr : readyM T L = [i, j]) (hi' : (opQ ops i s).isSome = true) (hj' : (opQ ops j s).isSome = true)
    (hi : OpsAt false P (alone ops i) 0 s w (fun s' w' => S w' ∧ AnyAt P ops T S fuel (Nat.lor L (Nat.shiftLeft 1 i)) s' w' K))
    (hj : OpsAt false P (alone ops j) 0 s w (fun s' w' => S w' ∧ AnyAt P ops T S fuel (Nat.lor L (Nat.shiftLeft 1 j)) s' w' K)) : AnyAt P ops T S (fuel + 1) L s w K := by
  refine any_steps [i, j] hr (by simp) ?_ ?_
  · intro k hk
    simp only [List.mem_cons, List.not_mem_nil, or_false] at hk
    rcases hk with rfl | rfl
    · exact hi'
    · exact hj'
  · intro k hk
    simp only [List.mem_cons, List.not_mem_nil, or_false] at hk
    rcases hk with rfl | rfl
    · exact hi
    · exact hj
end
end Go.Proofs.YthimamnblklkbaaDoor

/- What the laws use: a slice of an argument as a chunk that is read. -/
namespace Go.Proofs.YthimamnblklkbaaDoor
open Go Go.RowKit

theorem St.addLowB {α : Type} (K : Kind α) {B : Nat} {w0 w : World} {H : List Asn} {a : Option Addr} {l : List α} (hB : w0.heap.size = B) (hs : St B w0 [] w H) (h : CellsAt a (K.cells l) w0) : St B w0 [] w (K.low a l :: H) := by
  subst hB; exact St.addLow K hs h
theorem vapply_length (ws : List Int) (l : List (Int × Int)) : (vapply ws l).2.length = ws.length := by
  unfold vapply; split <;> simp [vflat_length]
set_option linter.unusedSimpArgs false
end Go.Proofs.YthimamnblklkbaaDoor

/- Plain laws of views. -/
namespace Go.Proofs.YthimamnblklkbaaDoor
open Go Go.RowKit

theorem vlook_vset {l : List (Int × Int)} {k v k' : Int} : vlook (vset l k v) k' = if k' = k then some v else vlook l k' := by
  cases hl : vlook l k with
  | none =>
    rw [vset_none hl]
    unfold vlook
    rw [List.find?_append]
    by_cases h : k' = k
    · subst h
      have h0 : l.find? (fun p => p.1 == k') = none := by
        unfold vlook at hl
        simpa using hl
      simp [h0]
    · have : ((k == k') : Bool) = false := by simpa using fun e => h e.symm
      simp [this, h]
  | some x =>
    have e : vset l k v = l.map fun p => if p.1 = k then (k, v) else p := by unfold vset; rw [hl]
    rw [e]
    clear e
    unfold vlook at hl ⊢
    induction l with
    | nil => simp at hl
    | cons p l ih =>
      by_cases hp : p.1 = k
      · by_cases h : k' = k
        · subst h; simp [hp]
        · have h1 : ((k == k') : Bool) = false := by simpa using fun e => h e.symm
          simp only [List.map_cons, hp, if_true, List.find?_cons, h1, h, if_false]
          have : ∀ m : List (Int × Int), (m.map fun p => if p.1 = k then (k, v) else p).find? (fun p => p.1 == k') = m.find? (fun p => p.1 == k') := by
            intro m
            induction m with
            | nil => rfl
            | cons q m ihm =>
              by_cases hq : q.1 = k
              · simp only [List.map_cons, hq, if_true, List.find?_cons, h1, ihm]
              · simp only [List.map_cons, hq, if_false, List.find?_cons, ihm]
          rw [this]
          try rfl
      · have hp' : ((p.1 == k) : Bool) = false := by simpa using hp
        simp only [List.find?_cons, hp'] at hl
        simp only [List.map_cons, hp, if_false, List.find?_cons]
        cases hq : (p.1 == k') with
        | true =>
          have : ¬ k' = k := by
            intro e; subst e; simp at hq; exact hp hq
          simp [this]
        | false =>
          have := ih (by simpa using hl)
          simpa using this

theorem vflat_get0 : ∀ {l : List (Int × Int)} {img : List Int}, Keys l → inside img.length l → ∀ {k : Nat}, k < img.length → (vflat img l).getD k 0 = (vlook l (k : Int)).getD (img.getD k 0)
  | [], img, _, _, k, hk => by simp [vflat, vlook]
  | p :: l, img, hn, hi, k, hk => by
    have hn' : Keys l := by simp only [Keys, List.map_cons, List.nodup_cons] at hn; exact hn.2
    have hp := hi p (List.mem_cons_self ..)
    have h1 := vflat_get0 (l := l) (img := img.set p.1.toNat p.2) hn' (by rw [List.length_set]; exact fun q hq => hi q (List.mem_cons_of_mem _ hq)) (k := k) (by simpa using hk)
    have e : vflat img (p :: l) = vflat (img.set p.1.toNat p.2) l := rfl
    rw [e, h1]
    by_cases h : p.1 = (k : Int)
    · have hnone : vlook l (k : Int) = none := by
        unfold vlook
        rw [Option.map_eq_none_iff, List.find?_eq_none]
        intro q hq hk'
        simp only [Keys, List.map_cons, List.nodup_cons, List.mem_map, not_exists, not_and] at hn
        exact hn.1 q hq (by rw [h]; simpa using hk')
      rw [hnone]
      have e2 : p.1.toNat = k := by omega
      rw [e2]
      simp [vlook, h, hk]
    · have e2 : ¬ p.1.toNat = k := by omega
      have e3 : ((p.1 == (k : Int)) : Bool) = false := by simpa using h
      have e4 : vlook (p :: l) (k : Int) = vlook l (k : Int) := by simp only [vlook, List.find?_cons, e3]
      rw [e4]
      congr 1
      simp [List.getD, List.getElem?_set_ne e2]

theorem vflat_get {l : List (Int × Int)} {img : List Int} (h : VOk img l) {k : Nat} (hk : k < img.length) : (vflat img l).getD k 0 = vget img l (k : Int) := by
  rw [vflat_get0 h.keys h.inside hk]
  simp only [vget]
  rw [if_pos (by omega)]
  rfl
theorem vget_nil {img : List Int} {k : Nat} (hk : k < img.length) : vget img [] (k : Int) = img.getD k 0 := by
  simp only [vget]
  rw [if_pos (by omega)]
  rfl
theorem vput_len (img : List Int) (l : List (Int × Int)) (a x : Int) : (vput img l a x).2.length ≤ l.length + 1 := by
  unfold vput
  split
  · cases hl : vlook l a with
    | some y => simp only; rw [vset_length_some (by rw [hl]; rfl)]; omega
    | none =>
      simp only
      split
      · simp
      · rw [vset_none hl]; simp
  · simp
theorem vput_in {img : List Int} {l : List (Int × Int)} {a x : Int} (h : 0 ≤ a ∧ a < img.length) (hm : l.length < 96) : vput img l a x = (0, vset l a x) := by
  simp only [vput]
  rw [if_pos h]
  cases vlook l a with
  | some y => rfl
  | none => exact if_neg (by omega)
theorem vput_out {img : List Int} {l : List (Int × Int)} {a x : Int} (h : ¬ (0 ≤ a ∧ a < img.length)) : vput img l a x = (8, l) := by
  simp only [vput]
  rw [if_neg h]
theorem vget_vset {img : List Int} {l : List (Int × Int)} {a x k : Int} (h : 0 ≤ a ∧ a < img.length) : vget img (vset l a x) k = if k = a then x else vget img l k := by
  simp only [vget, vlook_vset]
  by_cases hk : k = a
  · subst hk; simp [h]
  · simp [hk]
end Go.Proofs.YthimamnblklkbaaDoor

/- From a law's walk to its row: arguments opened as lists, and shut again by one lemma. -/
namespace Go.Proofs.YthimamnblklkbaaDoor
open Go.ChangeShapes Go.WideShapes Go.ChangeAt Go.RowKit Go.Deep

theorem len2 {α : Type} : ∀ {l : List α}, l.length = 2 → ∃ a b, l = [a, b]
  | [a, b], _ => ⟨a, b, rfl⟩
theorem len3 {α : Type} : ∀ {l : List α}, l.length = 3 → ∃ a b c, l = [a, b, c]
  | [a, b, c], _ => ⟨a, b, c, rfl⟩
theorem len4 {α : Type} : ∀ {l : List α}, l.length = 4 → ∃ a b c d, l = [a, b, c, d]
  | [a, b, c, d], _ => ⟨a, b, c, d, rfl⟩
theorem len5 {α : Type} : ∀ {l : List α}, l.length = 5 → ∃ a b c d e, l = [a, b, c, d, e]
  | [a, b, c, d, e], _ => ⟨a, b, c, d, e, rfl⟩

theorem law_own : ownKnob Tryd.prog.godebug = none := by kernel_rfl
theorem law_laid : laidOutB Tryd.prog = true := by kernel_rfl

theorem law_calls {P : Program} {f : FuncId} {args : Array Value} {w : World} (h : Spec P f args w.heap.size w [] (fun v H' => v = .bool true ∧ H' = [])) :
    Calls P f args w fun e w' => e = .returned (.bool true) ∧ Below w.heap.size w w' := by
  refine (h [] (Nat.le_refl _) (fun _ hb => (List.not_mem_nil hb).elim)).mono ?_
  rintro e w' ⟨v, rfl, H', l', ⟨rfl, rfl⟩, hs, hu⟩
  exact ⟨rfl, hu.os, hu.tape, hu.output, hu.size, fun k hk => hu.block k hk (by simp)⟩

section
variable {H : Type} {enc : TypeId × Value → H} {P : Program}

theorem law_trods (hl : laidOutB P = true) {W W' : World} (hB : Below W.heap.size W W') : ∀ {ts : List TypeId} {vs : List Value} {ds : List (DataW H)} {ps : List MemPlace},
    (ts.all fun t => P.readableRec t && decide (t < P.types.size)) = true → DataW.TrodAll enc P W 0 (fun _ => true) true ts vs ds ps → (∀ x ∈ ps, x.block < W.heap.size) → DataW.TrodAll enc P W' 0 (fun b => decide (b < W.heap.size)) true ts vs ds ps
  | [], [], [], _, _, h, _ => h
  | t :: ts, v :: vs, d :: ds, ps, hp, h, hlt => by
    obtain ⟨p, q, h1, h2, rfl⟩ := h
    simp only [List.all_cons, Bool.and_eq_true, decide_eq_true_eq] at hp
    exact ⟨p, q, Below.trod hl hp.1.1 hp.1.2 h1 hB (fun x hx => hlt x (List.mem_append_left _ hx)), law_trods hl hB hp.2 h2 (fun x hx => hlt x (List.mem_append_right _ hx)), rfl⟩

/-- 'true; the input reads as it did'. -/
theorem law_post {s : ChangeSpec} {f : Func} {tb : TypeId} {W W' : World} {args : Array Value} {ds gs : List (DataW H)} {before : List MemPlace} (hl : laidOutB P = true)
    (hp : (f.params.toList.all fun t => P.readableRec t && decide (t < P.types.size)) = true) (hv : s.vars = []) (hr : f.resultTypes = #[tb]) (hb : P.underlying tb = some .bool)
    (hW : DataW.Whole enc P f.params.toList s.vars false W args.toList ds gs before) (hB : Below W.heap.size W W') (hfn : (s.fn H ds).results = [.lit (.bool true)] ∧ (s.fn H ds).args = ds ∧ (s.fn H ds).vars = []) :
    ∃ v, (Ending.returned (.bool true)) = .returned v ∧ s.post enc P f false true false false W args v W' := by
  have hW' := hW
  obtain ⟨p, q, hA, hV, rfl, _, _⟩ := hW'
  rw [hv] at hV
  obtain ⟨rfl, rfl⟩ := trodVars_none hV
  have hlt : ∀ x ∈ p ++ [], x.block < W.heap.size := fun x hx => hW.lt x hx
  have e : ds ++ [] = ds := List.append_nil ds
  refine ⟨_, rfl, ds, [], p ++ [], [], p, [], hW, ?_, ?_, ?_, hB.frame _, fun h => by cases h⟩
  · rw [e, hfn.1, hr]; exact trodAll_mk1 (shut_bool hb true)
  · rw [e, hfn.2.1]; exact law_trods hl hB hp hA (fun x hx => hlt x (by simpa using hx))
  · rw [e, hfn.2.2, hv]; exact rfl
end

section
variable {α : Type} (K : Kind α) {H : Type} {enc : TypeId × Value → H} {P : Program} {w : World} {base : Nat} {sp : Nat → Bool}

theorem list_of {Q : Nat → α → Prop} : ∀ n : Nat, (∀ i, i < n → ∃ x, Q i x) → ∃ l : List α, l.length = n ∧ ∀ (i : Nat) (x : α), l[i]? = some x → Q i x
  | 0, _ => ⟨[], rfl, fun i x h => by simp at h⟩
  | n + 1, h => by
    obtain ⟨l, hl, hq⟩ := list_of n (fun i hi => h i (by omega))
    obtain ⟨x, hx⟩ := h n (by omega)
    refine ⟨l ++ [x], by simp [hl], fun i y hy => ?_⟩
    by_cases hi : i < n
    · rw [List.getElem?_append_left (by omega)] at hy; exact hq i y hy
    · rw [List.getElem?_append_right (by omega)] at hy
      have h0 : i - l.length = 0 := by
        have := (List.getElem?_eq_some_iff.1 hy).1
        simp at this; omega
      rw [h0] at hy
      have e : i = n := by
        have := (List.getElem?_eq_some_iff.1 hy).1
        omega
      simp only [List.getElem?_cons_zero, Option.some.injEq] at hy
      subst hy e; exact hx

theorem Kind.cells_at {l : List α} {j : Nat} {c : Value} (h : (K.cells l)[j]? = some c) : ∃ (i k : Nat) (x : α), j = i * K.size + k ∧ l[i]? = some x ∧ (K.elem x)[k]? = some c := by
  have hlt := (List.getElem?_eq_some_iff.1 h).1
  rw [K.length] at hlt
  have hi : j / K.size < l.length := Nat.div_lt_of_lt_mul (by rw [Nat.mul_comm]; exact hlt)
  have hm : j % K.size < K.size := Nat.mod_lt _ K.pos
  have e : j = j / K.size * K.size + j % K.size := by rw [Nat.mul_comm]; exact (Nat.div_add_mod j K.size).symm
  rw [e, K.get (l[j / K.size]) hi hm] at h
  refine ⟨_, _, l[j / K.size], e, List.getElem?_eq_getElem hi, ?_⟩
  simpa [List.getD, List.getElem?_eq_getElem hi] using h

/-- A slice opened as a list of a kind's elements. -/
theorem open_kind {t : TypeId} {v : Value} {d : DataW H} {ps : List MemPlace} (good : α → Prop) (ht : P.underlying t = some (.slice K.e)) (hC : P.cellsOf K.e = K.size)
    (hread : ∀ (n : Nat) (cs : List Value) (y : DataW H × List MemPlace), cs.length = K.size → DataW.trod enc P w base sp true n K.e cs = some y → ∃ x, cs = K.elem x ∧ good x)
    {r : Reach} {b0 : Nat} (hval : Value.okWide P w r b0 t v) (h : DataW.Trod enc P w base sp true t v d ps) :
    ∃ (a : Option Addr) (cap : Nat) (l : List α), v = .slice a l.length cap ∧ (a = none → cap = 0) ∧ l.length ≤ maxLen ∧ CellsAt a (K.cells l) w ∧ ∀ x ∈ l, good x := by
  obtain ⟨fuel, h⟩ := h
  have hcells : v.cells.toList = [v] := by
    obtain ⟨a, n, c, rfl⟩ := okWide_slice ht hval
    rfl
  rw [hcells] at h
  rcases open_slice ht h with ⟨h0, _⟩ | ⟨a, len, cap, m, n, D, Pl, hcs, _, hl, hm, hmm, _, hi⟩
  · simp only [List.cons.injEq, and_true] at h0
    exact ⟨none, 0, [], h0, fun _ => rfl, Nat.zero_le _, rfl, by simp⟩
  · simp only [List.cons.injEq, and_true] at hcs
    have hlm : len ≤ m := by rw [hmm]; split <;> omega
    have each : ∀ i, i < len → ∃ x, good x ∧ ∀ (j : Nat) (c : Value), (K.elem x)[j]? = some c → w.cell? (a.add (i * K.size + j)) = some c := by
      intro i hil
      obtain ⟨cs', hc, ht'⟩ := hi i (by omega)
      rw [hC] at hc
      obtain ⟨_, hcl, hat⟩ := World.cells?_some hc
      obtain ⟨x, rfl, hg⟩ := hread n cs' _ hcl (by rw [← hC] at *; exact ht')
      refine ⟨x, hg, fun j c hj => ?_⟩
      have hjl : j < K.size := by rw [← K.elen x]; exact (List.getElem?_eq_some_iff.1 hj).1
      rw [← Go.Deep.add_add, hat j hjl, hj]
    obtain ⟨l, hlen, hl2⟩ := list_of len each
    refine ⟨some a, cap, l, by rw [hlen]; exact hcs, by simp, by omega, ?_, ?_⟩
    · intro j c hj
      obtain ⟨i, k, x, rfl, hk, hx⟩ := K.cells_at hj
      exact (hl2 i x hk).2 k c hx
    · intro x hx
      obtain ⟨i, hi, e⟩ := List.mem_iff_getElem.1 hx
      exact (hl2 i x (by rw [List.getElem?_eq_getElem hi, e])).1
end
end Go.Proofs.YthimamnblklkbaaDoor

/- Kinds of lists of words. -/
namespace Go.Proofs.YthimamnblklkbaaDoor
open Go Go.RowKit
set_option linter.unusedSimpArgs false
set_option linter.unusedVariables false

def kU16 : Kind Int := ⟨37, 1, fun x => [.int .u16 x], by decide, fun _ => rfl, fun _ => rfl⟩
def kU8 : Kind Int := ⟨5, 1, fun x => [.int .u8 x], by decide, fun _ => rfl, fun _ => rfl⟩
def kBool : Kind Bool := ⟨4, 1, fun x => [.bool x], by decide, fun _ => rfl, fun _ => rfl⟩
end Go.Proofs.YthimamnblklkbaaDoor

/- How lists of words read. -/
namespace Go.Proofs.YthimamnblklkbaaDoor
open Go.ChangeShapes Go.WideShapes Go.ChangeAt Go.RowKit Go.Deep
set_option linter.unusedVariables false

def good_u64 (x : Int) : Prop := 0 ≤ x ∧ x ≤ 18446744073709551615
theorem read_u64 {H : Type} {enc : TypeId × Value → H} {w : World} {base : Nat} {sp : Nat → Bool} (n : Nat) (cs : List Value) (y : DataW H × List MemPlace) (_ : cs.length = kU64.size) (h : DataW.trod enc Tryd.prog w base sp true n kU64.e cs = some y) :
    ∃ x, cs = kU64.elem x ∧ good_u64 x := by
  obtain ⟨z, rfl, _, hz⟩ := DataW.trod_int (by kernel_rfl : Tryd.prog.underlying kU64.e = some (.int .u64)) h
  exact ⟨z, rfl, by simpa [good_u64, Lit.wf, IntKind.min, IntKind.max, IntKind.signed, IntKind.bits] using hz⟩

def good_u16 (x : Int) : Prop := 0 ≤ x ∧ x ≤ 65535
theorem read_u16 {H : Type} {enc : TypeId × Value → H} {w : World} {base : Nat} {sp : Nat → Bool} (n : Nat) (cs : List Value) (y : DataW H × List MemPlace) (_ : cs.length = kU16.size) (h : DataW.trod enc Tryd.prog w base sp true n kU16.e cs = some y) :
    ∃ x, cs = kU16.elem x ∧ good_u16 x := by
  obtain ⟨z, rfl, _, hz⟩ := DataW.trod_int (by kernel_rfl : Tryd.prog.underlying kU16.e = some (.int .u16)) h
  exact ⟨z, rfl, by simpa [good_u16, Lit.wf, IntKind.min, IntKind.max, IntKind.signed, IntKind.bits] using hz⟩

def good_u8 (x : Int) : Prop := 0 ≤ x ∧ x ≤ 255
theorem read_u8 {H : Type} {enc : TypeId × Value → H} {w : World} {base : Nat} {sp : Nat → Bool} (n : Nat) (cs : List Value) (y : DataW H × List MemPlace) (_ : cs.length = kU8.size) (h : DataW.trod enc Tryd.prog w base sp true n kU8.e cs = some y) :
    ∃ x, cs = kU8.elem x ∧ good_u8 x := by
  obtain ⟨z, rfl, _, hz⟩ := DataW.trod_int (by kernel_rfl : Tryd.prog.underlying kU8.e = some (.int .u8)) h
  exact ⟨z, rfl, by simpa [good_u8, Lit.wf, IntKind.min, IntKind.max, IntKind.signed, IntKind.bits] using hz⟩

end Go.Proofs.YthimamnblklkbaaDoor

/- How a value of integers and truth values reads, however its type is built. -/
namespace Go.Proofs.YthimamnblklkbaaDoor
open Go.ChangeShapes Go.WideShapes Go.ChangeAt Go.RowKit Go.Deep

inductive Leaf where
  | int (k : IntKind)
  | bool

def LeafOk : Leaf → Value → Prop
  | .int k, v => ∃ z, v = .int k z ∧ (Lit.int k z).wf = true
  | .bool, v => ∃ b, v = .bool b

def LeavesOk : List Leaf → List Value → Prop
  | [], [] => True
  | k :: ks, v :: vs => LeafOk k v ∧ LeavesOk ks vs
  | _, _ => False

theorem LeavesOk.append : ∀ {ks ks' : List Leaf} {vs vs' : List Value}, LeavesOk ks vs → LeavesOk ks' vs' → LeavesOk (ks ++ ks') (vs ++ vs')
  | [], _, [], _, _, h => h
  | _ :: _, _, _ :: _, _, h, h' => ⟨h.1, LeavesOk.append h.2 h'⟩

def leavesF (P : Program) (lv : TypeId → Option (List Leaf)) : Nat → List Field → Option (List Leaf)
  | _, [] => some []
  | off, f :: fs => match lv f.type with
    | some l => if f.offset = off ∧ P.cellsOf f.type = l.length then (leavesF P lv (off + l.length) fs).map (l ++ ·) else none
    | none => none

def leaves (P : Program) : Nat → TypeId → Option (List Leaf)
  | 0, _ => none
  | m + 1, t => match P.underlying t with
    | some (.int k) => some [.int k]
    | some .bool => some [.bool]
    | some (.struct fs) => match leavesF P (leaves P m) 0 fs.toList with
      | some ks => if P.cellsOf t = ks.length then some ks else none
      | none => none
    | some (.array n e) => match leaves P m e with
      | some l => if P.cellsOf e = l.length ∧ P.cellsOf t = n * l.length then some ((List.replicate n l).flatten) else none
      | none => none
    | _ => none

section
variable {H : Type} {enc : TypeId × Value → H} {P : Program} {w : World} {base : Nat} {sp : Nat → Bool} {held : Bool}

theorem leavesF_ok {lv : TypeId → Option (List Leaf)} (hlv : ∀ (t : TypeId) (ks : List Leaf) (n : Nat) (cs : List Value) (y : DataW H × List MemPlace), lv t = some ks → DataW.trod enc P w base sp held n t cs = some y → LeavesOk ks cs) {cs : List Value} :
    ∀ (fs : List Field) (off : Nat) (ks : List Leaf), leavesF P lv off fs = some ks → (∀ (i : Nat) (f : Field), fs[i]? = some f → ∃ n y, DataW.trod enc P w base sp held n f.type ((cs.drop f.offset).take (P.cellsOf f.type)) = some y) →
      LeavesOk ks ((cs.drop off).take ks.length)
  | [], off, ks, h, _ => by
    simp only [leavesF, Option.some.injEq] at h
    subst h
    simp [LeavesOk]
  | f :: fs, off, ks, h, ht => by
    unfold leavesF at h
    split at h
    · rename_i l hl
      split at h
      · rename_i hc
        simp only [Option.map_eq_some_iff] at h
        obtain ⟨ks', hk', rfl⟩ := h
        obtain ⟨n, y, hy⟩ := ht 0 f rfl
        rw [hc.1, hc.2] at hy
        have h1 := hlv _ _ _ _ _ hl hy
        have h2 := leavesF_ok hlv fs (off + l.length) ks' hk' (fun i g hg => ht (i + 1) g (by simpa using hg))
        have e : (cs.drop off).take (l ++ ks').length = (cs.drop off).take l.length ++ (cs.drop (off + l.length)).take ks'.length := by
          rw [List.length_append, List.take_add, List.drop_drop]
        rw [e]
        exact h1.append h2
      · cases h
    · cases h

theorem leavesA_ok {l : List Leaf} {cs : List Value} : ∀ n : Nat, (∀ i, i < n → LeavesOk l ((cs.drop (i * l.length)).take l.length)) → LeavesOk ((List.replicate n l).flatten) (cs.take (n * l.length))
  | 0, _ => by simp [LeavesOk]
  | n + 1, h => by
    have h1 := leavesA_ok n (fun i hi => h i (by omega))
    have h2 := h n (by omega)
    have e1 : (List.replicate (n + 1) l).flatten = (List.replicate n l).flatten ++ l := by
      rw [List.replicate_succ', List.flatten_append]
      simp
    have e2 : cs.take ((n + 1) * l.length) = cs.take (n * l.length) ++ (cs.drop (n * l.length)).take l.length := by
      rw [Nat.add_mul, Nat.one_mul, List.take_add]
    rw [e1, e2]
    exact h1.append h2

theorem leaves_ok : ∀ (m : Nat) (t : TypeId) (ks : List Leaf) (n : Nat) (cs : List Value) (y : DataW H × List MemPlace), leaves P m t = some ks → DataW.trod enc P w base sp held n t cs = some y → LeavesOk ks cs
  | 0, t, ks, n, cs, y, h, _ => by simp [leaves] at h
  | m + 1, t, ks, n, cs, y, h, hy => by
    unfold leaves at h
    split at h
    · rename_i k hu
      cases h
      obtain ⟨z, rfl, _, hz⟩ := DataW.trod_int hu hy
      exact ⟨⟨z, rfl, hz⟩, trivial⟩
    · rename_i hu
      cases h
      cases n with
      | zero => simp [DataW.trod] at hy
      | succ n =>
        unfold DataW.trod at hy
        rw [hu] at hy
        split at hy <;> simp_all [LeavesOk, LeafOk]
    · rename_i fs hu
      split at h
      · rename_i ks' hks
        split at h
        · rename_i hc
          cases h
          obtain ⟨xs, n', rfl, _, hlen, hxl, hf⟩ := DataW.trod_struct hu hy
          have h1 := leavesF_ok (cs := cs) (leaves_ok m) fs.toList 0 _ hks (fun i f hi => by
            have hi' : fs[i]? = some f := by simpa using hi
            have := hf i f hi'
            have hil : i < xs.length := by rw [hxl]; exact (Array.getElem?_eq_some_iff.1 hi').1
            rw [List.getElem?_eq_getElem hil] at this
            exact ⟨_, _, this⟩)
          simpa [← hc, ← hlen] using h1
        · cases h
      · cases h
    · rename_i k e hu
      split at h
      · rename_i l hl
        split at h
        · rename_i hc
          cases h
          obtain ⟨xs, n', rfl, _, hlen, hxl, hf⟩ := DataW.trod_array hu hy
          have h1 := leavesA_ok (l := l) (cs := cs) k (fun i hi => by
            have := hf i hi
            have hil : i < xs.length := by rw [hxl]; exact hi
            rw [List.getElem?_eq_getElem hil, hc.1] at this
            exact leaves_ok m _ _ _ _ _ hl this)
          simpa [← hc.2, ← hlen] using h1
        · cases h
      · cases h
    · cases h

/-- A struct by value, opened. -/
theorem open_agg {α : Type} (K : Kind α) (good : α → Prop) {fs : Array Field} {ks : List Leaf} (m : Nat) (hs : P.underlying K.e = some (.struct fs)) (hl : leaves P m K.e = some ks) (hread : ∀ cs, LeavesOk ks cs → ∃ x, cs = K.elem x ∧ good x)
    {r : Reach} {b0 : Nat} {v : Value} {d : DataW H} {ps : List MemPlace} (hval : Value.okWide P w r b0 K.e v) (h : DataW.Trod enc P w base sp held K.e v d ps) : ∃ x, v = .agg (K.elem x).toArray ∧ good x := by
  obtain ⟨cs, rfl, _⟩ := okWide_struct hs hval
  obtain ⟨fuel, h⟩ := h
  have h' : DataW.trod enc P w base sp held fuel K.e cs.toList = some (d, ps) := h
  obtain ⟨x, hx, hg⟩ := hread _ (leaves_ok m _ _ _ _ _ hl h')
  exact ⟨x, by rw [← hx], hg⟩
end
theorem leaves_cons {k : Leaf} {ks : List Leaf} : ∀ {cs : List Value}, LeavesOk (k :: ks) cs → ∃ v vs, cs = v :: vs ∧ LeafOk k v ∧ LeavesOk ks vs
  | v :: vs, h => ⟨v, vs, rfl, h.1, h.2⟩
  | [], h => h.elim
theorem leaves_nil : ∀ {cs : List Value}, LeavesOk [] cs → cs = []
  | [], _ => rfl
  | _ :: _, h => h.elim
end Go.Proofs.YthimamnblklkbaaDoor


/- append that grows out of any cells; copy into a block; slices of arrays. -/
namespace Go.Proofs.YthimamnblklkbaaDoor
open Go Go.RowKit

section
variable {M : Bool} {P : Program} {ops : Array Oper} {i : Nat} {s : Fs} {w w' : World} {K : Fs → World → Prop}

theorem ops_appendGrow {B : Nat} {w0 : World} {l0 : List Nat} {R : List Asn} {e : TypeId} {ad ad' : Addr} {n c m c' size bytes : Nat} {olds news : List Value}
    (hs : St B w0 l0 w R) (hq : appQ P ops i s e = some ((some ad, n, c), (some ad', m, c'), size, bytes))
    (hlo : olds.length = n * size) (holds : ∀ j v, olds[j]? = some v → w.cell? (ad.add j) = some v) (hl : news.length = m * size) (hnews : ∀ j v, news[j]? = some v → w.cell? (ad'.add j) = some v)
    (hg : c < n + m) (h63 : n + m ≤ maxLen) (hbytes : (n + m) * bytes ≤ 140737488355328)
    (hk : ∀ a'' c'' w', St B w0 l0 w' (rowA e size (.slice a'' (n + m) c'') (n + m) (olds ++ news) :: R) → OpsAt M P ops (i + 1) (putS s (dstOf ops i) (.slice a'' (n + m) c'')) w' K) : OpsAt M P ops i s w K := by
  unfold appQ at hq
  split at hq
  · rename_i o ho
    split at hq
    · rename_i x y t t' hop
      split at hq
      · rename_i e' f a1 n1 c1 a2 n2 c2 hu hi hx hy
        split at hq
        · rename_i z hz1 hz2 hz
          split at hq
          · rename_i hz3 hz4
            simp only [Option.some.injEq, Prod.mk.injEq] at hq
            obtain ⟨⟨rfl, rfl, rfl⟩, ⟨rfl, rfl, rfl⟩, rfl, rfl⟩ := hq
            obtain rfl := of_decide_eq_true hz1
            obtain rfl := of_decide_eq_true hz2
            have hzs := of_decide_eq_true hz3
            have hB := hs.size
            have hr := run_append_grow (P := P) w t o.type e' f z hu hi hz ad n1 c1 olds hlo holds ad' n2 c2 news hl hnews hg (by simp only [maxLen] at h63; omega) (growslice_fits (by omega) hbytes)
            have hge := grownCap_ge w (n1 + n2) c1 e'
            have hcm : grownCap w (n1 + n2) c1 e' ≤ maxLen := grownCap_le_maxLen w (n1 + n2) c1 e' h63
            have hlen : (olds ++ news).length = (n1 + n2) * f.size := by rw [List.length_append, hlo, hl, Nat.add_mul]
            refine ops_runs ho (v := .slice (some ⟨w.heap.size, 0, none⟩) (n1 + n2) (grownCap w (n1 + n2) c1 e')) (w' := w.drew.alloc (.cells (olds.toArray ++ news.toArray ++ Builtin.zeroCells z.cells (grownCap w (n1 + n2) c1 e' - (n1 + n2))) e')) ?_ (hk _ _ _ ?_)
            · simp only [execOp, hop, resolve, invoke, builtin, Sem.run_bind, Sem.run_pure, Result.andThen_ok, List.map_toArray, List.map_cons, List.map_nil, hx, hy, hr]
            · have hsd : St B w0 l0 w.drew R := hs.drew
              refine St.step0 (post := [rowA e' f.size (.slice (some ⟨w.heap.size, 0, none⟩) (n1 + n2) (grownCap w (n1 + n2) c1 e')) (n1 + n2) (olds ++ news)]) hsd
                ⟨[w.heap.size], ⟨[w.heap.size], [], ⟨⟨hlen, .inr ⟨w.heap.size, _, _, rfl, hB, heap_alloc_new w.drew _, hge, hcm, ?_, ?_⟩⟩, rfl⟩, fun b => by simp, fun b _ => by simp, by simp⟩, ?_⟩
              · simp only [Array.size_append, List.size_toArray, size_zeroCells, hzs, hlo, hl, ← Nat.add_mul]
                congr 1
                omega
              · simp only [Array.toList_append, List.append_assoc]
                rw [← List.append_assoc, ← hlen]
                exact List.take_left
              · refine ⟨rfl, rfl, rfl, by simp, fun b hb _ => Below.heap_alloc _ _ _ hb, fun b hb => .inr ?_⟩
                simp only [List.mem_singleton] at hb
                subst hb
                exact Nat.le_refl _
          · cases hq
        · cases hq
      · cases hq
    · cases hq
  · cases hq

/-- copy(x, y): both slices, an element's size. -/
def copyQ (P : Program) (ops : Array Oper) (i : Nat) (s : Fs) : Option ((Option Addr × Nat × Nat) × (Option Addr × Nat × Nat) × Nat) :=
  match opQ ops i s with
  | some o => match o.op with
    | .call { callee := .builtin .copy, args := ⟨[x, y]⟩, argTypes := ⟨[t, _]⟩ } => match P.underlying t, evS s x, evS s y with
      | some (.slice e), .slice a n c, .slice a' n' c' => match P.info? e with
        | some f => some ((a, n, c), (a', n', c'), f.size)
        | none => none
      | _, _, _ => none
    | _ => none
  | none => none

theorem ops_copy {B : Nat} {w0 : World} {l0 : List Nat} {R : List Asn} {b off n c m c' size : Nat} {ad : Addr} {vs cs : List Value} {t : TypeId} (hs : St B w0 l0 w (blk b (.cells cs.toArray t (0, 0)) :: R))
    (hq : copyQ P ops i s = some ((some ⟨b, off, none⟩, n, c), (some ad, m, c'), size)) (hm : m ≤ n) (hl : vs.length = m * size) (hsrc : ∀ j v, vs[j]? = some v → w.cell? (ad.add j) = some v)
    (hfit : off + vs.length ≤ cs.length) (hv : vs.all Value.oneCell' = true)
    (hk : ∀ w', St B w0 l0 w' (blk b (.cells (writeAt cs off vs).toArray t (0, 0)) :: R) → OpsAt M P ops (i + 1) (putS s (dstOf ops i) (goInt m)) w' K) : OpsAt M P ops i s w K := by
  have hb : w.heap[b]? = some (.cells cs.toArray t (0, 0)) := by
    obtain ⟨l, hsep⟩ := hs.sep
    obtain ⟨_, _, h1, _⟩ := hsep
    exact h1.2.1
  obtain ⟨w', h1, h2, h3⟩ := run_storeCells_blk (P := P) b t off vs 0 cs w hb (by simpa using hfit) hv
  have hst : St B w0 l0 w' (blk b (.cells (writeAt cs off vs).toArray t (0, 0)) :: R) := by
    refine St.step1 (post := [blk b (.cells (writeAt cs off vs).toArray t (0, 0))]) hs ?_
    rintro l ⟨g1, g2, rfl⟩
    exact ⟨[b], ⟨[b], [], ⟨g1, h2, rfl⟩, fun c => by simp, fun c _ => by simp, by simp⟩, h3⟩
  have hk' := hk w' hst
  unfold copyQ at hq
  split at hq
  · rename_i o ho
    split at hq
    · rename_i x y t1 t2 hop
      split at hq
      · rename_i e a1 n1 c1 a2 n2 c2 hu hx hy
        split at hq
        · rename_i f hi
          simp only [Option.some.injEq, Prod.mk.injEq] at hq
          obtain ⟨⟨rfl, rfl, rfl⟩, ⟨rfl, rfl, rfl⟩, rfl⟩ := hq
          refine ops_runs ho ?_ hk'
          have hmin : Nat.min n2 n1 = n2 := Nat.min_eq_left hm
          have hf := run_firstCells_some (P := P) w f.size n2 ad n2 c2 vs hl hsrc
          have hr : (Builtin.copy_ #[t1, t2] o.type #[.slice (some ⟨b, off, none⟩) n1 c1, .slice (some ad) n2 c2]).run P w = .ok (goInt n2) w' := by
            simp [Builtin.copy_, run_underlying hu, sizeOf, typeInfo, hi, Builtin.lenOf, hmin, hf, h1]
          simp only [execOp, hop, resolve, invoke, builtin, Sem.run_bind, Sem.run_pure, Result.andThen_ok, List.map_toArray, List.map_cons, List.map_nil, hx, hy, hr]
        · cases hq
      · cases hq
    · cases hq
  · cases hq
end
end Go.Proofs.YthimamnblklkbaaDoor

/- make([]T, n) of whatever length. -/
namespace Go.Proofs.YthimamnblklkbaaDoor
open Go Go.RowKit

section
variable {M : Bool} {P : Program} {ops : Array Oper} {i : Nat} {s : Fs} {w w' : World} {K : Fs → World → Prop}

/-- make([]T, n, n): the element's type, the length, an element's size, bytes, cells. -/
def mkQ (P : Program) (ops : Array Oper) (i : Nat) (s : Fs) : Option (TypeId × Int × Int × Nat × Nat × List Value) :=
  match opQ ops i s with
  | some o => match o.op with
    | .makeSlice t x y => match P.underlying t, evS s x, evS s y with
      | some (.slice e), .int _ l, .int _ c => match P.info? e with
        | some f => match f.zero with
          | some z => some (e, l, c, f.size, f.bytes, z.cells.toList)
          | none => none
        | none => none
      | _, _, _ => none
    | _ => none
  | none => none

theorem flatMap_replicate {α : Type} (n : Nat) (d : α) (f : α → List Value) : (List.replicate n d).flatMap f = (List.replicate n (f d)).flatten := by
  induction n with
  | zero => rfl
  | succ n ih => simp [List.replicate_succ, ih]

theorem made_list (zs : Array Value) (hz : 0 < zs.size) : ∀ n : Nat, (madeCells zs (n * zs.size)).toList = (List.replicate n zs.toList).flatten := by
  intro n
  refine List.ext_getElem ?_ fun j h1 h2 => ?_
  · simp [madeCells]
  · have hj : j < n * zs.size := by simpa [madeCells] using h1
    have hi : j / zs.size < n := Nat.div_lt_of_lt_mul (by rw [Nat.mul_comm]; exact hj)
    have hm : j % zs.size < zs.size := Nat.mod_lt _ hz
    simp only [madeCells, Array.getElem_toList, Array.getElem_map, Array.getElem_range]
    clear h1
    induction n generalizing j with
    | zero => simp at hj
    | succ n ih =>
      simp only [List.replicate_succ, List.flatten_cons]
      by_cases hlt : j < zs.size
      · rw [List.getElem_append_left (by simpa using hlt), Nat.mod_eq_of_lt hlt]
        simp [hlt]
      · rw [List.getElem_append_right (by simpa using hlt)]
        have e1 : (j - zs.toList.length) % zs.size = j % zs.size := by
          rw [Array.length_toList, ← Nat.mod_eq_sub_mod (by omega)]
        have hj' : j - zs.toList.length < n * zs.size := by rw [Array.length_toList]; rw [Nat.add_mul] at hj; omega
        have h := ih (j - zs.toList.length) (by simpa using hj') hj' (Nat.div_lt_of_lt_mul (by rw [Nat.mul_comm]; exact hj')) (Nat.mod_lt _ hz)
        rw [← h, e1]

theorem ops_makeSlice {α : Type} (Kd : Kind α) (d : α) {B : Nat} {w0 : World} {l0 : List Nat} {R : List Asn} {z : Int} (n : Nat) {bytes : Nat} (hz : z = (n : Int)) (hs : St B w0 l0 w R)
    (hq : mkQ P ops i s = some (Kd.e, z, z, Kd.size, bytes, Kd.elem d)) (hb : bytes * n ≤ 281474976710656) (hm : n ≤ maxLen)
    (hk : ∀ b w', St B w0 l0 w' (Kd.row (some ⟨b, 0, none⟩) n (List.replicate n d) :: R) → OpsAt M P ops (i + 1) (putS s (dstOf ops i) (.slice (some ⟨b, 0, none⟩) n n)) w' K) : OpsAt M P ops i s w K := by
  subst hz
  unfold mkQ at hq
  split at hq
  · rename_i o ho
    split at hq
    · rename_i t x y hop
      split at hq
      · rename_i e q1 l q2 c hu hx hy
        split at hq
        · rename_i f hi
          split at hq
          · rename_i zz hzz
            simp only [Option.some.injEq, Prod.mk.injEq] at hq
            obtain ⟨rfl, rfl, rfl, hsz, rfl, hcs⟩ := hq
            have hB := hs.size
            obtain ⟨w', hr, hown, hgr⟩ := run_make_full (P := P) w B t Kd.e f zz Kd.size hu hi hzz hsz q1 q2 n hb hm hB
            have hzs : zz.cells.size = Kd.size := by rw [← Array.length_toList, hcs, Kd.elen]
            have hlist : (madeCells zz.cells (n * Kd.size)).toList = Kd.cells (List.replicate n d) := by
              rw [← hzs, made_list _ (by rw [hzs]; exact Kd.pos), hcs]
              exact (flatMap_replicate n d Kd.elem).symm
            rw [hlist] at hown
            refine ops_runs ho (v := .slice (some ⟨w.heap.size, 0, none⟩) n n) (w' := w') ?_ (hk _ _ ?_)
            · simp only [execOp, hop, hx, hy, Sem.run_bind, Result.andThen_ok, Sem.run_pure, hr]
            · refine St.step0 (post := [Kd.row (some ⟨w.heap.size, 0, none⟩) n (List.replicate n d)]) hs ⟨[w.heap.size], ⟨[w.heap.size], [], ⟨?_, rfl⟩, fun b => by simp, fun b _ => by simp, by simp⟩, ?_⟩
              · simpa using hown
              · refine ⟨hgr.os, hgr.tape, hgr.output, hgr.size, fun b hb _ => hgr.block b hb (by simp), fun b hb => .inr ?_⟩
                simp only [List.mem_singleton] at hb
                subst hb
                exact Nat.le_refl _
          · cases hq
        · cases hq
      · cases hq
    · cases hq
  · cases hq
end
end Go.Proofs.YthimamnblklkbaaDoor

/- copy into a row, from a place on; the rest of a slice. -/
namespace Go.Proofs.YthimamnblklkbaaDoor
open Go Go.RowKit

theorem not_not_may {p : Prop} [Decidable p] (h : ¬ ¬ p) : p := Decidable.of_not_not h
theorem writeAt_append : ∀ (vs us cs : List Value) (off : Nat), writeAt cs off (vs ++ us) = writeAt (writeAt cs off vs) (off + vs.length) us
  | [], _, _, _ => rfl
  | v :: r, us, cs, off => by
    rw [List.cons_append, writeAt, writeAt, writeAt_append r us]
    congr 1
    simp only [List.length_cons]; omega
theorem writeAt_self : ∀ (vs cs pre : List Value), vs.length = cs.length → writeAt (pre ++ cs) pre.length vs = pre ++ vs
  | [], [], _, _ => rfl
  | v :: r, c :: cs, pre, h => by
    have e := writeAt_self r cs (pre ++ [v]) (by simpa using h)
    rw [writeAt]
    have e2 : (pre ++ c :: cs).set pre.length v = pre ++ [v] ++ cs := by simp
    rw [e2]
    simpa using e
/-- a list with some elements set, one behind the other. -/
def setAll {α : Type} (xs : List α) (k : Nat) : List α → List α
  | [] => xs
  | y :: ys => setAll (xs.set k y) (k + 1) ys
theorem setAll_length {α : Type} : ∀ (ys xs : List α) (k : Nat), (setAll xs k ys).length = xs.length
  | [], _, _ => rfl
  | y :: ys, xs, k => by rw [setAll, setAll_length ys]; simp

/-- what stands below all that is owned stays. -/
theorem St.oldCellsB {B : Nat} {w0 w : World} {l0 : List Nat} {H : List Asn} {ad : Addr} {cs : List Value} (hs : St B w0 l0 w H) (hG : ad.block < B) (h : CellsAt (some ad) cs w0) : CellsAt (some ad) cs w := by
  obtain ⟨hB, hlow, l, _, hu⟩ := hs
  intro j v hj
  have hc := h j v hj
  have hb : (ad.add j).block = ad.block := by unfold Addr.add; split <;> rfl
  have he : w.heap[(ad.add j).block]? = w0.heap[(ad.add j).block]? := by
    rw [hb]
    exact hu.block _ (Nat.lt_of_lt_of_le hG hB) fun hm => absurd (hlow _ hm).1 (by omega)
  rw [World.cell?_of_block (w := w0) he]
  exact hc
theorem lt_of_cells {w : World} {ad : Addr} {v : Value} {cs : List Value} (h : CellsAt (some ad) cs w) (h0 : cs[0]? = some v) : ad.block < w.heap.size := by
  have hc := h 0 v h0
  have hb : (ad.add 0).block = ad.block := by unfold Addr.add; split <;> rfl
  rw [← hb]
  exact World.block_lt_of_cell? w _ hc

section
variable {α : Type} (Kd : Kind α)
theorem Kind.setAll (d : α) : ∀ (ys xs : List α) (k : Nat), k + ys.length ≤ xs.length → writeAt (Kd.cells xs) (k * Kd.size) (Kd.cells ys) = Kd.cells (setAll xs k ys)
  | [], _, _, _ => rfl
  | y :: ys, xs, k, h => by
    simp only [List.length_cons] at h
    have e := Kd.set (l := xs) (k := k) d 0 (vs := Kd.elem y) y (by omega) (by rw [Kd.elen]; omega) (by
      have e := writeAt_self (Kd.elem y) (Kd.elem (xs.getD k d)) [] (by rw [Kd.elen, Kd.elen])
      simpa using e.symm)
    rw [Nat.add_zero] at e
    rw [Kd.cells_cons, writeAt_append, e, Kd.elen, show k * Kd.size + Kd.size = (k + 1) * Kd.size by rw [Nat.add_mul]; omega, Kind.setAll d ys _ _ (by rw [List.length_set]; omega)]
    rfl
end

section
variable {M : Bool} {P : Program} {ops : Array Oper} {i : Nat} {s : Fs} {w w' : World} {K : Fs → World → Prop}

theorem ops_copyRow {B : Nat} {w0 : World} {l0 : List Nat} {R : List Asn} {e : TypeId} {size n c j n1 c1 m c' : Nat} {a : Option Addr} {ad : Addr} {vs xs : List Value} (hs : St B w0 l0 w (rowA e size (.slice a n c) n xs :: R))
    (hq : copyQ P ops i s = some ((some (adr a j), n1, c1), (some ad, m, c'), size)) (hm : m ≤ n1) (hl : vs.length = m * size) (h0 : vs ≠ []) (hsrc : ∀ j v, vs[j]? = some v → w.cell? (ad.add j) = some v)
    (hfit : j + vs.length ≤ xs.length) (hv : vs.all Value.oneCell' = true)
    (hk : ∀ w', St B w0 l0 w' (rowA e size (.slice a n c) n (writeAt xs j vs) :: R) → OpsAt M P ops (i + 1) (putS s (dstOf ops i) (goInt m)) w' K) : OpsAt M P ops i s w K := by
  have hrow : w.ownsRow B e size (.slice a n c) n xs := by
    obtain ⟨l, sep⟩ := hs.sep
    obtain ⟨_, _, h1, _⟩ := sep
    exact h1.1
  obtain ⟨hlen, hrow⟩ := hrow
  have h0' : 0 < vs.length := List.length_pos_iff.2 h0
  rcases hrow with ⟨hv', rfl⟩ | ⟨g, cap, cur, hv', hBg, hg, hnc, hcm, hcs, htake⟩
  · rw [Nat.zero_mul] at hlen; omega
  · cases hv'
    have hadd : adr (some ⟨g, 0, none⟩) j = ⟨g, j, none⟩ := by unfold adr Addr.add; split <;> simp_all
    rw [hadd] at hq
    have hcur : cur = cur.toList.toArray := by simp
    have hle : xs.length ≤ cur.toList.length := by rw [← htake]; simp only [List.length_take]; omega
    obtain ⟨w', h1, h2, h3⟩ := run_storeCells_blk (P := P) g e j vs 0 cur.toList w (by rw [← hcur]; exact hg) (by simp only [Array.length_toList] at *; omega) hv
    have hst : St B w0 l0 w' (rowA e size (.slice (some ⟨g, 0, none⟩) n c) n (writeAt xs j vs) :: R) := by
      refine St.step1 (post := [rowA e size (.slice (some ⟨g, 0, none⟩) n c) n (writeAt xs j vs)]) hs ?_
      rintro l ⟨_, rfl⟩
      refine ⟨[g], ⟨[g], [], ⟨⟨by rw [writeAt_length]; exact hlen, .inr ⟨g, c, _, rfl, hBg, h2, hnc, hcm, ?_, ?_⟩⟩, rfl⟩, fun c => by simp, fun c _ => by simp, by simp⟩, ?_⟩
      · simpa [writeAt_length] using hcs
      · simp only [Nat.add_zero]
        rw [take_writeAt _ _ _ _ (by omega), htake]
      · simpa [Value.ownBlock] using h3
    have hk' := hk w' hst
    unfold copyQ at hq
    split at hq
    · rename_i o ho
      split at hq
      · rename_i x y t1 t2 hop
        split at hq
        · rename_i e' a1 n1' c1' a2 n2 c2 hu hx hy
          split at hq
          · rename_i f hi
            simp only [Option.some.injEq, Prod.mk.injEq] at hq
            obtain ⟨⟨rfl, rfl, rfl⟩, ⟨rfl, rfl, rfl⟩, rfl⟩ := hq
            refine ops_runs ho ?_ hk'
            have hmin : Nat.min n2 n1' = n2 := Nat.min_eq_left hm
            have hf := run_firstCells_some (P := P) w f.size n2 ad n2 c2 vs hl hsrc
            have hr : (Builtin.copy_ #[t1, t2] o.type #[.slice (some ⟨g, j, none⟩) n1' c1', .slice (some ad) n2 c2]).run P w = .ok (goInt n2) w' := by
              simp [Builtin.copy_, run_underlying hu, sizeOf, typeInfo, hi, Builtin.lenOf, hmin, hf, h1]
            simp only [execOp, hop, resolve, invoke, builtin, Sem.run_bind, Sem.run_pure, Result.andThen_ok, List.map_toArray, List.map_cons, List.map_nil, hx, hy, hr]
          · cases hq
        · cases hq
      · cases hq
    · cases hq

/-- copy of a block's elements into a row, from element k on. -/
theorem ops_copyK {α : Type} (Kd : Kind α) (d : α) {B : Nat} {w0 : World} {l0 : List Nat} {R : List Asn} {n1 c c1 c' k : Nat} {a : Option Addr} {ad : Addr} {xs ys : List α} (hs : St B w0 l0 w (Kd.row a c xs :: R))
    (hq : copyQ P ops i s = some ((some (adr a (k * Kd.size)), n1, c1), (some ad, ys.length, c'), Kd.size)) (hm : ys.length ≤ n1) (h0 : ys ≠ []) (hsrc : ∀ j v, (Kd.cells ys)[j]? = some v → w.cell? (ad.add j) = some v)
    (hfit : k + ys.length ≤ xs.length)
    (hk : ∀ w', St B w0 l0 w' (Kd.row a c (setAll xs k ys) :: R) → OpsAt M P ops (i + 1) (putS s (dstOf ops i) (goInt ys.length)) w' K) : OpsAt M P ops i s w K := by
  refine ops_copyRow (vs := Kd.cells ys) hs hq hm (Kd.length ys) ?_ hsrc ?_ (List.all_eq_true.2 fun u hu => Kd.one ys u hu) ?_
  · intro h
    have := Kd.length ys
    rw [h] at this
    have hp := Kd.pos
    have hl : 0 < ys.length := List.length_pos_iff.2 h0
    have := Nat.mul_pos hl hp
    simp at *
    omega
  · rw [Kd.length, Kd.length, ← Nat.add_mul]
    exact Nat.mul_le_mul_right _ hfit
  · intro w' hs'
    refine hk w' ?_
    unfold Kind.row
    rw [setAll_length, ← Kd.setAll d ys xs k hfit]
    exact hs'

/-- a store into an element of an array, its cells from j on. -/
theorem ops_storeArr {α : Type} (Kd : Kind α) {B : Nat} {w0 : World} {l0 : List Nat} {R : List Asn} {b k j : Nat} {t : TypeId} {l : List α} {vs : List Value} (d y : α) (hs : St B w0 l0 w (blk b (.cells (Kd.cells l).toArray t (0, 0)) :: R)) (hkl : k < l.length) (hj : j + vs.length ≤ Kd.size) (hv : vs.all Value.oneCell' = true)
    (hy : Kd.elem y = writeAt (Kd.elem (l.getD k d)) j vs) (hq : storeQ P ops i s = some ((adr (some ⟨b, 0, none⟩) (k * Kd.size)).add j, vs))
    (hk : ∀ w', St B w0 l0 w' (blk b (.cells (Kd.cells (l.set k y)).toArray t (0, 0)) :: R) → OpsAt M P ops (i + 1) (putS s (dstOf ops i) undef) w' K) : OpsAt M P ops i s w K := by
  rw [adr_add] at hq
  have hadd : adr (some ⟨b, 0, none⟩) (k * Kd.size + j) = ⟨b, k * Kd.size + j, none⟩ := by unfold adr Addr.add; split <;> simp_all
  rw [hadd] at hq
  refine ops_store hs hq ?_ hv fun w' hs' => hk w' ?_
  · rw [Kd.length]
    have : (k + 1) * Kd.size ≤ l.length * Kd.size := Nat.mul_le_mul_right _ hkl
    rw [Nat.add_mul] at this
    omega
  · rw [Kd.set d j y hkl hj hy] at hs'
    exact hs'
theorem le_take_len {α : Type} {xs : List α} {m : Nat} (h : m ≤ xs.length) : m = (xs.take m).length := by rw [List.length_take, Nat.min_eq_left h]
/-- x[:m], its length told otherwise. -/
theorem runs_prefixL {a : Option Addr} {n c size : Nat} {z : Int} (m n' : Nat) (e : m = n') (hz : z = (m : Int)) (h : m ≤ n) (h2 : n ≤ c) (hq : sliceQ P ops i s = some ((a, n, c), none, some z, size)) : RunsTo P ops i s w (.slice a n' c) w := by
  subst e
  exact runs_prefix m hz h h2 hq
/-- x[k:] -/
theorem runs_suffix {a : Option Addr} {n c size : Nat} {z : Int} (k : Nat) (hz : z = (k : Int)) (h1 : k ≤ n) (h2 : n ≤ c) (h3 : k < c) (ha : ∃ ad, a = some ad) (hq : sliceQ P ops i s = some ((a, n, c), some z, none, size)) : RunsTo P ops i s w (.slice (some (adr a (k * size))) (n - k) (c - k)) w := by
  subst hz
  obtain ⟨ad, rfl⟩ := ha
  have h := runs_slice (P := P) (ops := ops) (i := i) (s := s) (w := w) (size := size) (a := some ad) (n := n) (c := c) (lo := some (k : Int)) (hi := none) k n (.inl rfl) (.inr ⟨rfl, rfl⟩) h1 h2 hq
  rw [if_neg (by omega)] at h
  exact h
end
end Go.Proofs.YthimamnblklkbaaDoor

/- Geometry: plain. -/
namespace Go.Proofs.YthimamnblklkbaaDoor
open Go Go.RowKit

/-- a geometry that may be. -/
def May (gw gi gb : Int) : Prop := (1 ≤ gw ∧ gw ≤ 4) ∧ (2 ≤ gi ∧ gi ≤ 64) ∧ (2 ≤ gb ∧ gb ≤ 512)
instance (gw gi gb : Int) : Decidable (May gw gi gb) := by unfold May; exact inferInstance
theorem may_out {gw gi gb : Int} (h : May gw gi gb) : (1 ≤ gw ∧ gw ≤ 4) ∧ (2 ≤ gi ∧ gi ≤ 64) ∧ (2 ≤ gb ∧ gb ≤ 512) := h
/-- a row's place; -1 where it is none. -/
def placeOf (k : Nat) (gw gi gb n : Int) : Int :=
  if May gw gi gb then
    match k with
    | 2 => if 0 ≤ n ∧ n < 4 then 8 + 64 * n else -1
    | 6 => if 0 ≤ n ∧ n < 1 then 264 + 208 * gw + 8 * n else -1
    | 7 => if 0 ≤ n ∧ n < 1 then 272 + 208 * gw + 8 * n else -1
    | 8 => if 0 ≤ n ∧ n < gi then 280 + 208 * gw + 16 * n else -1
    | 9 => if 0 ≤ n ∧ n < gb then 280 + 208 * gw + 16 * gi + 8 * n else -1
    | _ => -1
  else -1
def wordsOf (gw gi gb : Int) : Int := if May gw gi gb then 280 + 208 * gw + 16 * gi + 8 * gb else 0
/-- the words of an empty disk. -/
def fmtW (gw gi gb : Int) : List Int :=
  if May gw gi gb then
    ((((((((List.replicate (wordsOf gw gi gb).toNat 0).set 0 32762617960297063).set 1 gw).set 2 gi).set 3 gb).set (placeOf 6 gw gi gb 0).toNat 3).set (placeOf 7 gw gi gb 0).toNat 1).set (placeOf 8 gw gi gb 1).toNat 2).set (placeOf 8 gw gi gb 1 + 1).toNat 1
  else []
theorem fmtW_len (gw gi gb : Int) : (fmtW gw gi gb).length = (wordsOf gw gi gb).toNat := by
  unfold fmtW
  split
  · simp only [List.length_set, List.length_replicate]
  · rename_i h; simp [wordsOf, h]
theorem words_may {gw gi gb : Int} (h : May gw gi gb) : wordsOf gw gi gb = 280 + 208 * gw + 16 * gi + 8 * gb := by simp only [wordsOf, if_pos h]
theorem words_le (gw gi gb : Int) : 0 ≤ wordsOf gw gi gb ∧ wordsOf gw gi gb ≤ 6232 := by
  unfold wordsOf
  split
  · rename_i h
    have h_ : (1 ≤ gw ∧ gw ≤ 4) ∧ (2 ≤ gi ∧ gi ≤ 64) ∧ (2 ≤ gb ∧ gb ≤ 512) := h
    omega
  · omega
theorem place6 {gw gi gb : Int} (h : May gw gi gb) : placeOf 6 gw gi gb 0 = 264 + 208 * gw := by simp [placeOf, h]
theorem place7 {gw gi gb : Int} (h : May gw gi gb) : placeOf 7 gw gi gb 0 = 272 + 208 * gw := by simp [placeOf, h]
theorem place8_in {gw gi gb n : Int} (h : May gw gi gb) (hn : 0 ≤ n ∧ n < gi) : placeOf 8 gw gi gb n = 280 + 208 * gw + 16 * n := by simp [placeOf, h, hn]
theorem place8_cases (gw gi gb n : Int) : placeOf 8 gw gi gb n = -1 ∧ ¬ (May gw gi gb ∧ 0 ≤ n ∧ n < gi) ∨ (May gw gi gb ∧ (0 ≤ n ∧ n < gi) ∧ placeOf 8 gw gi gb n = 280 + 208 * gw + 16 * n) := by
  by_cases h : May gw gi gb
  · by_cases hn : 0 ≤ n ∧ n < gi
    · exact .inr ⟨h, hn, place8_in h hn⟩
    · exact .inl ⟨by simp [placeOf, h, hn], fun q => hn q.2⟩
  · exact .inl ⟨by simp [placeOf, h], fun q => h q.1⟩
def mx (x y : Int) : Int := if y > x then y else x
def mn (x y : Int) : Int := if y < x then y else x
theorem mx_lt {x y z : Int} : mx x y < z ↔ x < z ∧ y < z := by unfold mx; split <;> omega

theorem le_mx {x y z : Int} : z ≤ mx x y ↔ z ≤ x ∨ z ≤ y := by unfold mx; split <;> omega

/-- an inode's ten words. -/
structure Nd where
  k : Int
  l : Int
  o : Int
  s : Int
  a : Int
  b : Int
  c : Int
  d : Int
  e : Int
  m : Int
def Nd.list (x : Nd) : List Int := [x.k, x.l, x.o, x.s, x.a, x.b, x.c, x.d, x.e, x.m]
def Nd.zero : Nd := ⟨0, 0, 0, 0, 0, 0, 0, 0, 0, 0⟩
/-- an inode that may be. -/
def RightP (gw gi gb : Int) (x : Nd) : Prop :=
  May gw gi gb ∧ (x.a < gb ∧ x.b < gb ∧ x.c < gb ∧ x.d < gb ∧ x.e < gb ∧ x.m < gi) ∧ (x.l ≤ 65536 ∧ x.o ≤ 16 ∧ x.s ≤ 768) ∧ ((x.k = 1 ∧ x.m = 0) ∨ (x.k = 2 ∧ x.s = 0))
instance (gw gi gb : Int) (x : Nd) : Decidable (RightP gw gi gb x) := by unfold RightP; exact inferInstance

/-- a word written where it is another. -/
def vwrite (img : List Int) (l : List (Int × Int)) (at_ x : Int) : Int × List (Int × Int) :=
  if at_ < 0 ∨ at_ ≥ img.length then (8, l) else if vget img l at_ = x then (0, l) else vput img l at_ x
/-- words written, one behind the other. -/
def vwrites (img : List Int) (at_ : Int) : List (Int × Int) → Int → List Int → Int × List (Int × Int)
  | l, _, [] => (0, l)
  | l, i, x :: xs => if (vwrite img l (at_ + i) x).1 = 0 then vwrites img at_ (vwrite img l (at_ + i) x).2 (i + 1) xs else vwrite img l (at_ + i) x
def ifind (len : Int) (gw gi gb n : Int) : Int × Int :=
  if placeOf 8 gw gi gb n < 0 ∨ n = 0 then (0, 1) else if len < wordsOf gw gi gb then (0, 8) else (placeOf 8 gw gi gb n, 0)
theorem vwrites_step {img : List Int} {at_ : Int} {m : List (Int × Int)} {ws : List Int} {k : Nat} (hk : k < ws.length) :
    vwrites img at_ m (k : Int) (ws.drop k) = if (vwrite img m (at_ + (k : Int)) (ws.getD k 0)).1 = 0 then vwrites img at_ (vwrite img m (at_ + (k : Int)) (ws.getD k 0)).2 ((k + 1 : Nat) : Int) (ws.drop (k + 1)) else vwrite img m (at_ + (k : Int)) (ws.getD k 0) := by
  have e : ws.drop k = ws.getD k 0 :: ws.drop (k + 1) := by
    rw [List.drop_eq_getElem_cons hk]
    simp [hk]
  rw [e]
  rfl
theorem ifind_range (len gw gi gb n : Int) : ((ifind len gw gi gb n).2 = 0 ∨ (ifind len gw gi gb n).2 = 1 ∨ (ifind len gw gi gb n).2 = 8) ∧ (0 ≤ (ifind len gw gi gb n).1 ∧ (ifind len gw gi gb n).1 ≤ 2200) ∧ ((ifind len gw gi gb n).2 = 0 → (ifind len gw gi gb n).1 = placeOf 8 gw gi gb n) := by
  have hp : -1 ≤ placeOf 8 gw gi gb n ∧ placeOf 8 gw gi gb n ≤ 2200 := by
    rcases place8_cases gw gi gb n with ⟨h, _⟩ | ⟨h, hn, e⟩
    · omega
    · have h_ : (1 ≤ gw ∧ gw ≤ 4) ∧ (2 ≤ gi ∧ gi ≤ 64) ∧ (2 ≤ gb ∧ gb ≤ 512) := h
      omega
  unfold ifind
  split
  · simp
  · split
    · simp
    · simp; omega
def iputM (img : List Int) (l : List (Int × Int)) (gw gi gb n : Int) (x : Nd) : Int × List (Int × Int) :=
  if RightP gw gi gb x then
    if (ifind img.length gw gi gb n).2 = 0 then vwrites img (ifind img.length gw gi gb n).1 l 0 x.list else ((ifind img.length gw gi gb n).2, l)
  else (1, l)
def iwipeM (img : List Int) (l : List (Int × Int)) (gw gi gb n : Int) : Int × List (Int × Int) :=
  if (ifind img.length gw gi gb n).2 = 0 then vwrites img (ifind img.length gw gi gb n).1 l 0 [0, 0, 0, 0, 0, 0, 0, 0, 0, 0] else ((ifind img.length gw gi gb n).2, l)
def ndAt (img : List Int) (l : List (Int × Int)) (at_ : Int) : Nd :=
  ⟨vget img l (at_ + 0), vget img l (at_ + 1), vget img l (at_ + 2), vget img l (at_ + 3), vget img l (at_ + 4), vget img l (at_ + 5), vget img l (at_ + 6), vget img l (at_ + 7), vget img l (at_ + 8), vget img l (at_ + 9)⟩
def igetM (img : List Int) (l : List (Int × Int)) (gw gi gb n : Int) : Nd × Int :=
  if (ifind img.length gw gi gb n).2 = 0 then
    if RightP gw gi gb (ndAt img l (ifind img.length gw gi gb n).1) then (ndAt img l (ifind img.length gw gi gb n).1, 0) else (.zero, 4)
  else (.zero, (ifind img.length gw gi gb n).2)
end Go.Proofs.YthimamnblklkbaaDoor
