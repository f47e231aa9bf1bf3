/- Texts, one behind the other: Rf, Zp, F5a, F5b, F5c, F5d, Bt, Tz, Lp, Td, A6a, Lb, Pop, Lv, Sg, Sk, S2, Lg, Pu, F06b, F06c, A6o, Rg, A6c, F06t, A6d, A6b. -/
import Derived.Test.YtmmclabkkigiaaaDoorRows
import Derived.Laws.Entries
import Derived.Shelf.Spec.TrailingZeros
import Derived.ProofKit
import Derived.Deep.Slices
import Derived.Deep.Fields
import Derived.LaidMore
import Derived.OpenShut
import Derived.Stop.Joined
import Derived.Lib.LaidTab
import Derived.Laws.OwnMore
import Derived.Test.YtmmclabkkigiaaaDoorQDN0
set_option linter.unusedVariables false
set_option linter.unusedSimpArgs false
namespace Go.Proofs.YtmmclabkkigiaaaDoor
open Go Go.RowKit

def YSpec (P : Program) (l : Nat) (args : Array Value) (B : Nat) (w : World) (pre : List Asn) (post : Value → List Asn → Prop) : Prop :=
  ∀ lf, B ≤ w.heap.size → Sep B w pre lf → ∃ f tmps assign body, (Instr.yield l args).run P w = .ok (.round l f tmps assign body) w ∧
    RoundIn (fen none) 0 P l f tmps assign body w (fun e w' => ∃ v, e = .returned v ∧ ∃ H' l', post v H' ∧ Sep B w' H' l' ∧ Upd w w' lf l')

section
variable {P : Program} {ops : Array Oper} {i : Nat} {s : Fs} {w : World} {K : Fs → World → Prop}

def yieldQ (ops : Array Oper) (i : Nat) (s : Fs) : Option (Nat × Array Value) :=
  match opQ ops i s with
  | some o => match o.op with
    | .call { callee := .value x, args := ags, .. } => match evS s x with
      | .func (.yield l) ⟨[]⟩ ⟨[]⟩ => some (l, ags.map (evS s))
      | _ => none
    | _ => none
  | none => none

theorem ops_yield {B : Nat} {w0 : World} {l0 : List Nat} {pre R : List Asn} {l : Nat} {args : Array Value} {post : Value → List Asn → Prop} (hs : St B w0 l0 w (pre ++ R)) (hr : s.r = none)
    (hq : yieldQ ops i s = some (l, args)) (hy : YSpec P l args B w pre post)
    (hk : ∀ v H' w', post v H' → St B w0 l0 w' (H' ++ R) → OpsAt true P ops (i + 1) (putS s (dstOf ops i) v) w' K) : OpsAt true P ops i s w K := by
  unfold yieldQ at hq
  split at hq
  · rename_i o ho
    obtain ⟨h1, h2, h3, h4⟩ := opQ_some' ho
    rw [h3] at hk
    split at hq
    · rename_i x ags tys hop
      split at hq
      · rename_i l' hx
        simp only [Option.some.injEq, Prod.mk.injEq] at hq
        obtain ⟨rfl, rfl⟩ := hq
        have hB := hs.size
        obtain ⟨l1, s1, key⟩ := hs.part
        obtain ⟨f, tmps, assign, body, hyr, hrd⟩ := hy l1 hB s1
        refine ⟨fun x' hx' T hT => ?_⟩
        rw [range_cons h1]
        simp only [wpM, wpOpsIn, h1, yield_rel hx', h2, if_true]
        refine ⟨fun _ _ => trivial, ?_⟩
        rw [Oper.semAt_eq _ _ _ (by intro c hc; rw [hop] at hc; cases hc), ev_rel hx']
        have hrun : (execOp (evS s) o).run P w = .ok (.round l' f tmps assign body) w := by
          simp [execOp, hop, resolve, hx, invoke, go_sem]
          exact hyr
        rw [hrun, hr]
        refine ⟨fen_depth, RoundIn.mono hrd ?_⟩
        rintro e w' ⟨v, rfl, H', l2, hp, hsep, hu⟩
        have h5 := (hk v H' w' hp (key w' H' l2 hsep hu)).out _ (rel_put hx' h4 v) T (fun y w' ⟨s', a, b, c⟩ => hT y w' ⟨s', a, b.trans (put_r _ _ _), c⟩)
        rw [put_r, hr] at h5
        exact h5
      · cases hq
    · cases hq
  · cases hq
end

def roundQ (B : Nat) (w : World) (lf : List Nat) (l : Nat) (rc : Loop) (post : Value → List Asn → Prop) : Exit → Fs → World → Prop
  | .normal, _, w3 => ∃ Y', St B w lf w3 (blk l (.loop { rc with state := .busy }) :: Y') ∧ post (.bool true) (blk l (.loop { rc with state := .ready, pending := none }) :: Y')
  | .ret, _, w3 => ∃ Y', St B w lf w3 (blk l (.loop { rc with state := .busy }) :: Y') ∧ post (.bool false) (blk l (.loop { rc with state := .done, pending := some .ret }) :: Y')
  | .exit id, _, w3 => ∃ Y', St B w lf w3 (blk l (.loop { rc with state := .busy }) :: Y') ∧ post (.bool false) (blk l (.loop { rc with state := .done, pending := some (.exit id) }) :: Y')
  | _, _, _ => False

theorem putObj_blk {B : Nat} {w0 w : World} {l0 : List Nat} {R : List Asn} {l : Nat} {o : Obj} (o' : Obj) (hs : St B w0 l0 w (blk l o :: R)) : St B w0 l0 (w.putObj l o') (blk l o' :: R) := by
  refine St.step1 (post := [blk l o']) hs ?_
  rintro lf ⟨h1, h2, rfl⟩
  have hlt := (Array.getElem?_eq_some_iff.1 h2).1
  refine ⟨[l], ⟨[l], [], ⟨h1, World.putObj_heap_same hlt, rfl⟩, fun b => by simp, fun b _ => by simp, by simp⟩, rfl, rfl, rfl, by simp, ?_, fun b h => .inl h⟩
  intro b _ hb
  simp only [List.mem_singleton] at hb
  exact World.putObj_heap_other hb

theorem St.head {B : Nat} {w0 w : World} {l0 : List Nat} {R : List Asn} {l : Nat} {o : Obj} (hs : St B w0 l0 w (blk l o :: R)) : w.heap[l]? = some o := hs.heapAt 0 rfl

theorem yspec_round {P : Program} {B : Nat} {w : World} {l : Nat} {rc : Loop} {Y : List Asn} {args : Array Value} {post : Value → List Asn → Prop} (hst : rc.state = .ready) (hsz : args.size = rc.params.size)
    (s0 : Fs) (hs0 : Rel ⟨(rc.params.zip args).foldl (fun tmps (t, a) => tmps.setIfInBounds t a) rc.tmps, []⟩ s0) (hr0 : s0.r = some l)
    (walk : ∀ lf, St B w lf w (blk l (.loop rc) :: Y) → ∀ K : Fs → World → Prop, (∀ s' w1, St B w lf w1 (blk l (.loop rc) :: Y) →
      (∀ w2, St B w lf w2 (blk l (.loop { rc with state := .busy }) :: Y) → W P rc.body s' w2 (roundQ B w lf l rc post)) → K s' w1) → W P rc.assign s0 w (seqQ K (fun _ _ _ => False))) :
    YSpec P l args B w (blk l (.loop rc) :: Y) post := by
  intro lf hB hsep
  have hst0 : St B w lf w (blk l (.loop rc) :: Y) := St.begin hB hsep
  refine ⟨rc.fn, _, rc.assign, rc.body, run_yield hst0.head hsz, roundIn_of_wpIn trivial ?_⟩
  have hw := (walk lf hst0 (fun s' w1 => St B w lf w1 (blk l (.loop rc) :: Y) ∧ ∀ w2, St B w lf w2 (blk l (.loop { rc with state := .busy }) :: Y) → W P rc.body s' w2 (roundQ B w lf l rc post)) (fun s' w1 h1 h2 => ⟨h1, h2⟩)).out _ hs0
  rw [hr0] at hw
  refine wpIn_mono hw ?_
  rintro e x w1 ⟨s', hx, hsr, hq⟩
  cases e with
  | normal =>
    obtain ⟨h1, h2⟩ := (show St B w lf w1 (blk l (.loop rc) :: Y) ∧ _ from hq)
    refine ⟨_, run_beginRound h1.head hst, ?_⟩
    have h3 := (h2 _ (putObj_blk (.loop { rc with state := .busy }) h1)).out x hx
    rw [hsr] at h3
    refine wpIn_mono h3 ?_
    have fin : ∀ (jump : Option Code) (w3 : World) (Y' : List Asn) (v : Value), v = .bool jump.isNone → St B w lf w3 (blk l (.loop { rc with state := .busy }) :: Y') →
        post v (blk l (.loop { rc with state := if jump.isNone then .ready else .done, pending := jump }) :: Y') →
        ∃ v w', (Instr.endRound l jump).run P w3 = .ok v w' ∧ ∃ v', Ending.returned v = .returned v' ∧ ∃ H' l', post v' H' ∧ Sep B w' H' l' ∧ Upd w w' lf l' := by
      intro jump w3 Y' v hv hs3 hp
      have hs4 := putObj_blk (.loop { rc with state := if jump.isNone then .ready else .done, pending := jump }) hs3
      obtain ⟨_, _, l', hsep', hu⟩ := hs4
      subst hv
      exact ⟨_, _, run_endRound jump hs3.head, _, rfl, _, l', hp, hsep', hu⟩
    rintro e y w3 ⟨s3, hy, hs3, hq3⟩
    cases e with
    | normal => obtain ⟨Y', ha, hb⟩ := hq3; exact fin none w3 Y' _ rfl ha hb
    | ret => obtain ⟨Y', ha, hb⟩ := hq3; exact fin (some .ret) w3 Y' _ rfl ha hb
    | exit id => obtain ⟨Y', ha, hb⟩ := hq3; exact fin (some (.exit id)) w3 Y' _ rfl ha hb
    | _ => exact hq3.elim
  | _ => exact hq.elim

def Fs.mark (s : Fs) (D : Nat) : Fs := ⟨s.n, s.f, s.r, { target := .collected D, args := #[] } :: s.d⟩

theorem W.rangeFunc {P : Program} {s : Fs} {w : World} {Q : Exit → Fs → World → Prop} {B : Nat} {w0 : World} {l0 : List Nat} {g : Operand} {ps : Array Tmp} {assign body : Code} {gf : Nat} {lb : Array Value} {pre R : List Asn}
    {post : Loop → Nat → Value → List Asn → Prop}
    (hs : St B w0 l0 w (pre ++ R)) (hr : s.r = none) (hg : evS s g = .func (.func gf) #[] lb) (hf : ∀ args w, (callFunc gf args).run P w = .ok (.enter gf args) w)
    (hc : ∀ (rc : Loop) (l : Nat) (w1 : World), rc.tmps.size = s.n → (∀ i, rc.tmps.getD i undef = s.f i) → rc.state = .ready → rc.pending = none → rc.params = ps → rc.assign = assign → rc.body = body →
      St B w0 l0 w1 (blk l (.loop rc) :: blk rc.defers (.deferred (some [])) :: (pre ++ R)) → Spec P gf (#[.func (.yield l) #[] #[]] ++ lb) B w1 (blk l (.loop rc) :: pre) (post rc l))
    (hk : ∀ (rc : Loop) (l : Nat) (v : Value) (H' : List Asn), post rc l v H' → ∃ rc' H'', rc'.state ≠ .busy ∧ rc'.defers = rc.defers ∧ H' = blk l (.loop rc') :: H'' ∧
      ∀ w3, St B w0 l0 w3 (blk rc.defers (.deferred (some [])) :: (H'' ++ R)) → match rc'.pending with
        | none => Q .normal (s.mark rc.defers) w3
        | some c => W P c (s.mark rc.defers) w3 Q) : W P (.rangeFunc g ps assign body) s w Q := by
  refine ⟨fun x hx => ?_⟩
  rw [hr]
  refine wpIn_rangeFunc ?_
  intro fn _
  obtain ⟨rc, hrc⟩ : ∃ rc : Loop, rc = { state := .ready, pending := none, fn, tmps := x.tmps, params := ps, assign, body, defers := w.heap.size } := ⟨_, rfl⟩
  have hB := hs.size
  have hs1 : St B w0 l0 (w.alloc (.deferred (some []))) (blk w.heap.size (.deferred (some [])) :: (pre ++ R)) := by
    refine St.step0 (post := [blk w.heap.size (.deferred (some []))]) hs ⟨[w.heap.size], ⟨[w.heap.size], [], ⟨hB, heap_alloc_new w _, rfl⟩, fun c => by simp, fun c _ => by simp, by simp⟩, rfl, rfl, rfl, by simp, fun c hc _ => Below.heap_alloc _ _ _ hc, fun c hc => .inr (by simp only [List.mem_singleton] at hc; omega)⟩
  have hB1 := hs1.size
  have hs2 : St B w0 l0 ((w.alloc (.deferred (some []))).alloc (.loop rc)) (blk (w.heap.size + 1) (.loop rc) :: blk w.heap.size (.deferred (some [])) :: (pre ++ R)) := by
    have e : (w.alloc (.deferred (some []))).heap.size = w.heap.size + 1 := by simp
    have hn := heap_alloc_new (w.alloc (.deferred (some []))) (.loop rc)
    rw [e] at hn hB1
    refine St.step0 (post := [blk (w.heap.size + 1) (.loop rc)]) hs1 ⟨[w.heap.size + 1], ⟨[w.heap.size + 1], [], ⟨hB1, hn, rfl⟩, fun c => by simp, fun c _ => by simp, by simp⟩, rfl, rfl, rfl, by simp, fun c hc _ => Below.heap_alloc _ _ _ hc, fun c hc => .inr (by simp only [List.mem_singleton] at hc; omega)⟩
  have hrd : rc.defers = w.heap.size := by rw [hrc]
  have hspec := hc rc (w.heap.size + 1) _ (by rw [hrc]; exact hx.1.1) (by rw [hrc]; exact hx.2) (by rw [hrc]) (by rw [hrc]) (by rw [hrc]) (by rw [hrc]) (by rw [hrc]) (by rw [hrd]; exact hs2)
  have hperm : (blk (w.heap.size + 1) (.loop rc) :: blk w.heap.size (.deferred (some [])) :: (pre ++ R)).Perm ((blk (w.heap.size + 1) (.loop rc) :: pre) ++ (blk w.heap.size (.deferred (some [])) :: R)) := by
    simp only [List.cons_append]
    exact (List.perm_middle.symm).cons _
  have hs3 := hs2.perm hperm
  obtain ⟨l1, s1, key⟩ := hs3.part
  refine ⟨w.heap.size + 1, [{ target := .collected w.heap.size, args := #[] }], (w.alloc (.deferred (some []))).alloc (.loop rc), { target := .fn (.func gf) lb, args := #[.func (.yield (w.heap.size + 1)) #[] #[]] }, (w.alloc (.deferred (some []))).alloc (.loop rc), gf,
    #[.func (.yield (w.heap.size + 1)) #[] #[]] ++ lb, (w.alloc (.deferred (some []))).alloc (.loop rc), by rw [show (fen none).round = none from rfl, run_enterLoop_outer, ← hrc], ?_, fun _ _ => trivial, ?_, fen_depth, ?_⟩
  · simp only [resolve, ev_rel hx, hg]
    simp [go_sem]
    rfl
  · simp [invoke, go_sem, hf]
  · refine calls_fen (Calls.mono (hspec l1 hs3.size s1) ?_)
    rintro e w3 ⟨v, rfl, H', l', hp, hsep, hu⟩
    obtain ⟨rc', H'', hne, hd, rfl, hfin⟩ := hk rc _ v H' hp
    have hs4 := key w3 _ l' hsep hu
    have hs5 := putObj_blk (.loop { rc' with state := .exhausted }) hs4
    have hs6 := hs5.drop
    have hs7 : St B w0 l0 (w3.putObj (w.heap.size + 1) (.loop { rc' with state := .exhausted })) (blk rc.defers (.deferred (some [])) :: (H'' ++ R)) := by
      rw [hrd]; exact hs6.perm List.perm_middle
    refine ⟨rc'.pending, _, run_endLoop (hs4.heapAt 0 rfl) hne, ?_⟩
    have h8 := hfin _ hs7
    have hrel : Rel { x with defers := [{ target := .collected w.heap.size, args := #[] }] ++ x.defers } (s.mark rc.defers) := by
      refine ⟨⟨hx.1.1, ?_⟩, hx.2⟩
      simp [Fs.mark, hrd, hx.1.2]
    cases hpe : rc'.pending with
    | none => rw [hpe] at h8; exact ⟨_, hrel, hr, h8⟩
    | some c =>
      rw [hpe] at h8
      have h9 := W.out h8 _ hrel
      have hmr : (s.mark rc.defers).r = none := hr
      rw [hmr] at h9
      exact h9

theorem leave_mark {P : Program} {fn : Func} {R : Value → World → Prop} {s : Fs} {B : Nat} {w0 w : World} {l0 : List Nat} {D : Nat} {H : List Asn} {v : Value} (hs : St B w0 l0 w (blk D (.deferred (some [])) :: H))
    (hd : s.d = [{ target := .collected D, args := #[] }]) (hv : ∀ w', St B w0 l0 w' H → (resD fn s).run P w' = .ok v w') (hR : ∀ w', St B w0 l0 w' H → R v w') : Leave P fn R s w := by
  refine ⟨?_⟩
  rw [hd]
  have h := (putObj_blk (.deferred none) hs).drop
  exact ⟨D, _, rfl, run_takeDeferred hs.head, v, hv _ h, hR _ h⟩

def scalarB (P : Program) (t : TypeId) : Bool :=
  match P.underlying t with
  | some (.struct _) => false
  | some (.array _ _) => false
  | some _ => true
  | none => false

theorem run_loadVar_cell {P : Program} {w : World} {t : TypeId} {ad : Addr} {v : Value} (ht : scalarB P t = true) (hc : w.cell? ad = some v) : (loadVar t ad).run P w = .ok v w := by
  unfold scalarB at ht
  split at ht
  · cases ht
  · cases ht
  · rename_i d h1 h2 hu
    have hag : (isAgg t).run P w = .ok false w := by
      unfold isAgg
      rw [Sem.run_bind, run_underlying hu]
      simp only [Result.andThen_ok]
      cases d <;> first | rfl | exact (h1 _ rfl).elim | exact (h2 _ _ rfl).elim
    simp only [loadVar, Sem.run_bind, Result.andThen_ok, hag, load]
    simp [Sem.run, hc]
  · cases ht

inductive ResAt (P : Program) (s : Fs) (w : World) : ResultVar → Value → Prop
  | tmp {t : Tmp} {v : Value} (h : s.f t = v) : ResAt P s w (.tmp t) v
  | cell {a : Tmp} {t : TypeId} {ad : Addr} {v : Value} (ha : s.f a = .pointer (some ad)) (ht : scalarB P t = true) (hc : w.cell? ad = some v) : ResAt P s w (.cell a t) v
  | agg {a : Tmp} {t : TypeId} {ad : Addr} {cs : List Value} (ha : s.f a = .pointer (some ad)) (hz : aggSize P t = some cs.length) (hc : ∀ j v, cs[j]? = some v → w.cell? (ad.add j) = some v) : ResAt P s w (.cell a t) (.agg cs.toArray)

theorem ResAt.run {P : Program} {s : Fs} {w : World} {r : ResultVar} {v : Value} (h : ResAt P s w r v) :
    (resF s r).run P w = .ok v w := by
  cases h with
  | tmp h => subst h; rfl
  | cell ha ht hc => simp [resF, ha, asAddr, run_loadVar_cell ht hc]
  | agg ha hz hc => simp [resF, ha, asAddr, run_loadVar_agg hz hc]

theorem resD_one {P : Program} {s : Fs} {w : World} {fn : Func} {r : ResultVar} {v : Value} (hr : fn.results = #[r]) (h : ResAt P s w r v) : (resD fn s).run P w = .ok v w := by
  have h1 := h.run
  unfold resD
  rw [hr]
  simp [h1]
theorem resD_two {P : Program} {s : Fs} {w : World} {fn : Func} {r q : ResultVar} {v u : Value} (hr : fn.results = #[r, q]) (h : ResAt P s w r v) (h' : ResAt P s w q u) : (resD fn s).run P w = .ok (.tuple #[v, u]) w := by
  have h1 := h.run
  have h2 := h'.run
  unfold resD
  rw [hr]
  simp [Sem.run_bind, h1, h2]
theorem resS_of {P : Program} {s : Fs} {w : World} {fn : Func} {v : Value} (hd : s.d = []) (h : (resD fn s).run P w = .ok v w) : (resS fn s).run P w = .ok v w := by
  unfold resS
  rw [hd]
  exact h

def YA {G : Type} (l : Nat) (rc : Loop) (F : G → Prop) (Hs : G → List Asn) : Asn := exA F (fun x => blk l (.loop rc) :: Hs x)

theorem sep_exA {G : Type} {B : Nat} {w : World} {l : List Nat} {F : G → Prop} {Hs : G → List Asn} (x : G) (hF : F x) (h : Sep B w (Hs x) l) : Sep B w [exA F Hs] l :=
  ⟨l, [], ⟨x, hF, h⟩, fun b => by simp, fun b _ => by simp, by simp⟩

def jumpOf : Exit → Option Code
  | .ret => some .ret
  | .exit id => some (.exit id)
  | _ => none

def rq {G GZ : Type} (B : Nat) (w : World) (lf : List Nat) (l : Nat) (rc : Loop) (F' : G → Prop) (Hs : G → List Asn) (c : Code) (FZ : GZ → Prop) (HsZ : GZ → List Asn) : Exit → Fs → World → Prop
  | .normal, _, w3 => ∃ x, F' x ∧ St B w lf w3 (blk l (.loop { rc with state := .busy }) :: Hs x)
  | e, _, w3 => jumpOf e = some c ∧ ∃ z, FZ z ∧ St B w lf w3 (blk l (.loop { rc with state := .busy }) :: HsZ z)

theorem yspec_ghost {G GZ : Type} {P : Program} {B : Nat} {w : World} {l : Nat} {rc : Loop} {args : Array Value} {F F' : G → Prop} {Hs : G → List Asn} {c : Code} {FZ : GZ → Prop} {HsZ : GZ → List Asn}
    (hst : rc.state = .ready) (hpe : rc.pending = none) (hsz : args.size = rc.params.size)
    (s0 : Fs) (hs0 : Rel ⟨(rc.params.zip args).foldl (fun tmps (t, a) => tmps.setIfInBounds t a) rc.tmps, []⟩ s0) (hr0 : s0.r = some l)
    (walk : ∀ x, F x → ∀ lf, St B w lf w (blk l (.loop rc) :: Hs x) → ∀ K : Fs → World → Prop, (∀ s' w1, St B w lf w1 (blk l (.loop rc) :: Hs x) →
      (∀ w2, St B w lf w2 (blk l (.loop { rc with state := .busy }) :: Hs x) → W P rc.body s' w2 (rq B w lf l rc F' Hs c FZ HsZ)) → K s' w1) → W P rc.assign s0 w (seqQ K (fun _ _ _ => False))) :
    YSpec P l args B w [YA l rc F Hs] (fun v H' => (v = .bool true ∧ H' = [YA l rc F' Hs]) ∨ (v = .bool false ∧ H' = [YA l { rc with state := .done, pending := some c } FZ HsZ])) := by
  intro lf hB hsep
  obtain ⟨l1, l2, ⟨x, hF, h1⟩, h2, hd, hm⟩ := hsep
  have hmm : ∀ b, b ∈ lf ↔ b ∈ l1 := fun b => by rw [hm b]; exact ⟨fun h => h.resolve_right (h2 b), .inl⟩
  have key := yspec_round (P := P) (B := B) (w := w) (Y := Hs x) (args := args) (post := fun v H' =>
      (∃ x', F' x' ∧ v = .bool true ∧ H' = blk l (.loop rc) :: Hs x') ∨ (∃ z, FZ z ∧ v = .bool false ∧ H' = blk l (.loop { rc with state := .done, pending := some c }) :: HsZ z)) hst hsz s0 hs0 hr0 (by
    intro lf' hs K hK
    refine walk x hF lf' hs K fun s' w1 h3 h4 => hK s' w1 h3 fun w2 h5 => (h4 w2 h5).mono ?_
    intro e s3 w3 hq
    have hrc : ({ rc with state := .ready, pending := none } : Loop) = rc := by cases rc; simp_all
    cases e with
    | normal =>
      obtain ⟨x', hF', h6⟩ := hq
      exact ⟨_, h6, .inl ⟨x', hF', rfl, by rw [hrc]⟩⟩
    | ret =>
      obtain ⟨hj, z, hz, h6⟩ := hq
      simp only [jumpOf, Option.some.injEq] at hj
      subst hj
      exact ⟨_, h6, .inr ⟨z, hz, rfl, rfl⟩⟩
    | exit id =>
      obtain ⟨hj, z, hz, h6⟩ := hq
      simp only [jumpOf, Option.some.injEq] at hj
      subst hj
      exact ⟨_, h6, .inr ⟨z, hz, rfl, rfl⟩⟩
    | goto t => obtain ⟨hj, _⟩ := hq; cases hj
    | panic t => obtain ⟨hj, _⟩ := hq; cases hj
    | outgrown => obtain ⟨hj, _⟩ := hq; cases hj)
  obtain ⟨f, tmps, assign, body, hy, hrd⟩ := key l1 hB h1
  refine ⟨f, tmps, assign, body, hy, RoundIn.mono hrd ?_⟩
  rintro e w' ⟨v, rfl, H', l', hp, hs', hu⟩
  have hu' : Upd w w' lf l' := ⟨hu.os, hu.tape, hu.output, hu.size, fun b hb hn => hu.block b hb fun h => hn ((hmm b).2 h), fun b hb => (hu.foot b hb).imp (fun h => (hmm b).2 h) id⟩
  rcases hp with ⟨x', hF', rfl, rfl⟩ | ⟨z, hz, rfl, rfl⟩
  · exact ⟨_, rfl, _, l', .inl ⟨rfl, rfl⟩, sep_exA x' hF' hs', hu'⟩
  · exact ⟨_, rfl, _, l', .inr ⟨rfl, rfl⟩, sep_exA z hz hs', hu'⟩

theorem W.rounds {G GZ : Type} {P : Program} {s : Fs} {w : World} {Q : Exit → Fs → World → Prop} {B : Nat} {w0 : World} {l0 : List Nat} {g : Operand} {ps : Array Tmp} {assign body : Code} {gf : Nat} {lb : Array Value}
    (n : Nat) (F : Nat → G → Prop) (Hs : G → List Asn) (c : Code) (FZ : GZ → Prop) (HsZ : GZ → List Asn) (own : List Asn) (enc : Nat → Array Value) (s0 : Nat → Nat → Fs) (x0 : G) (h0 : F 0 x0)
    (hs : St B w0 l0 w (own ++ Hs x0)) (hr : s.r = none) (hg : evS s g = .func (.func gf) #[] lb) (hf : ∀ args w, (callFunc gf args).run P w = .ok (.enter gf args) w) (hsz : ∀ k, (enc k).size = ps.size)
    (hrel : ∀ (a : Array Value) (k l : Nat), a.size = s.n → (∀ i, a.getD i undef = s.f i) → Rel ⟨(ps.zip (enc k)).foldl (fun tmps (t, a) => tmps.setIfInBounds t a) a, []⟩ (s0 k l) ∧ (s0 k l).r = some l)
    (iter : ∀ (l : Nat) (w1 : World) (Y : Nat → Asn) (Z : Asn), (∀ k, k < n → ∀ w', YSpec P l (enc k) B w' [Y k] (fun v H' => (v = .bool true ∧ H' = [Y (k + 1)]) ∨ (v = .bool false ∧ H' = [Z]))) →
      Spec P gf (#[.func (.yield l) #[] #[]] ++ lb) B w1 (own ++ [Y 0]) (fun v H' => v = .tuple #[] ∧ (H' = own ++ [Y n] ∨ H' = own ++ [Z])))
    (round : ∀ (k : Nat), k < n → ∀ (rc : Loop) (l : Nat) (w' : World) (x : G), F k x → ∀ lf, St B w' lf w' (blk l (.loop rc) :: Hs x) → ∀ K : Fs → World → Prop, (∀ s' w1, St B w' lf w1 (blk l (.loop rc) :: Hs x) →
      (∀ w2, St B w' lf w2 (blk l (.loop { rc with state := .busy }) :: Hs x) → W P body s' w2 (rq B w' lf l rc (F (k + 1)) Hs c FZ HsZ)) → K s' w1) → W P assign (s0 k l) w' (seqQ K (fun _ _ _ => False)))
    (done : ∀ D w3 x, F n x → St B w0 l0 w3 (blk D (.deferred (some [])) :: (own ++ Hs x)) → Q .normal (s.mark D) w3)
    (jump : ∀ D w3 z, FZ z → St B w0 l0 w3 (blk D (.deferred (some [])) :: (own ++ HsZ z)) → W P c (s.mark D) w3 Q) : W P (.rangeFunc g ps assign body) s w Q := by
  refine W.rangeFunc (pre := own ++ Hs x0) (R := []) (post := fun rc l v H' => v = .tuple #[] ∧ ((∃ x, F n x ∧ H' = blk l (.loop rc) :: (own ++ Hs x)) ∨ (∃ z, FZ z ∧ H' = blk l (.loop { rc with state := .done, pending := some c }) :: (own ++ HsZ z))) ∧ rc.state = .ready ∧ rc.pending = none) (by simpa using hs) hr hg hf ?_ ?_
  · intro rc l w1 h1 h2 h3 h4 h5 h6 h7 hs1
    have hyy : ∀ k, k < n → ∀ w', YSpec P l (enc k) B w' [YA l rc (F k) Hs] (fun v H' => (v = .bool true ∧ H' = [YA l rc (F (k + 1)) Hs]) ∨ (v = .bool false ∧ H' = [YA l { rc with state := .done, pending := some c } FZ HsZ])) := by
      intro k hk w'
      obtain ⟨hrl, hrr⟩ := hrel rc.tmps k l h1 h2
      rw [← h5] at hrl
      refine yspec_ghost h3 h4 (by rw [h5]; exact hsz k) (s0 k l) hrl hrr ?_
      intro x hF lf hs2
      have hw := round k hk rc l w' x hF lf hs2
      rw [← h6, ← h7] at hw
      exact hw
    have hit := iter l w1 (fun k => YA l rc (F k) Hs) (YA l { rc with state := .done, pending := some c } FZ HsZ) hyy
    intro lf hB hsep
    have st1 : St B w1 lf w1 (blk l (.loop rc) :: (own ++ Hs x0)) := St.begin hB hsep
    have hp1 : (blk l (.loop rc) :: (own ++ Hs x0)).Perm (blk l (.loop rc) :: Hs x0 ++ own) := by
      simp only [List.cons_append]
      exact List.Perm.cons _ List.perm_append_comm
    have st2 := St.close (F := F 0) (Hs := fun x => blk l (.loop rc) :: Hs x) x0 h0 (st1.perm hp1)
    have st3 : St B w1 lf w1 (own ++ [YA l rc (F 0) Hs]) := st2.perm (List.perm_append_singleton _ _).symm
    have st4 : St B w1 lf w1 ((own ++ [YA l rc (F 0) Hs]) ++ []) := by simpa using st3
    obtain ⟨l1, s1, key⟩ := st4.part
    refine Calls.mono (hit l1 hB s1) ?_
    rintro e w3 ⟨v, rfl, H', l', ⟨rfl, hp⟩, hsep', hu⟩
    have fin : ∀ {G' : Type} (rc' : Loop) (F' : G' → Prop) (Hs' : G' → List Asn), H' = own ++ [YA l rc' F' Hs'] → ∃ x, F' x ∧ St B w1 lf w3 (blk l (.loop rc') :: (own ++ Hs' x)) := by
      intro G' rc' F' Hs' hH
      subst hH
      have st5 := key w3 _ l' hsep' hu
      have st6 : St B w1 lf w3 (YA l rc' F' Hs' :: own) := by
        have : ((own ++ [YA l rc' F' Hs']) ++ []).Perm (YA l rc' F' Hs' :: own) := by rw [List.append_nil]; exact List.perm_append_singleton (YA l rc' F' Hs') own
        exact st5.perm this
      obtain ⟨x, hF, st7⟩ := St.open (F := F') (Hs := fun x => blk l (.loop rc') :: Hs' x) st6
      refine ⟨x, hF, st7.perm ?_⟩
      simp only [List.cons_append]
      exact List.Perm.cons _ List.perm_append_comm
    rcases hp with hp | hp
    · obtain ⟨x, hF, _, _, l5, h8, h9⟩ := fin _ _ _ hp
      exact ⟨_, rfl, _, l5, ⟨rfl, .inl ⟨x, hF, rfl⟩, h3, h4⟩, h8, h9⟩
    · obtain ⟨z, hz, _, _, l5, h8, h9⟩ := fin _ _ _ hp
      exact ⟨_, rfl, _, l5, ⟨rfl, .inr ⟨z, hz, rfl⟩, h3, h4⟩, h8, h9⟩
  · rintro rc l v H' ⟨rfl, hp, h3, h4⟩
    rcases hp with ⟨x, hF, rfl⟩ | ⟨z, hz, rfl⟩
    · refine ⟨rc, own ++ Hs x, (fun h => by have h' := h3.symm.trans h; cases h'), rfl, rfl, fun w3 hs3 => ?_⟩
      rw [h4]
      exact done _ w3 x hF (by simpa using hs3)
    · refine ⟨{ rc with state := .done, pending := some c }, own ++ HsZ z, (fun h => by cases h), rfl, rfl, fun w3 hs3 => ?_⟩
      exact jump _ w3 z hz (by simpa using hs3)

theorem rel_round1 {n : Nat} {L : List (Nat × Value)} {us : Nat → Value} {l p : Nat} {v : Value} (hp : p < n) {a : Array Value} (h1 : a.size = n) (h2 : ∀ i, a.getD i undef = look L i (us i)) :
    Rel ⟨((#[p] : Array Tmp).zip #[v]).foldl (fun tmps (t, a) => tmps.setIfInBounds t a) a, []⟩ (slotsD n ((p, v) :: L) us (some l) []) := by
  have h := rel_set h1 h2 hp v
  have e : ((#[p] : Array Tmp).zip #[v]).foldl (fun tmps (t, a) => tmps.setIfInBounds t a) a = a.setIfInBounds p v := by simp [Array.zip]
  rw [e]
  exact ⟨⟨h.1, rfl⟩, h.2⟩
theorem rel_round2 {n : Nat} {L : List (Nat × Value)} {us : Nat → Value} {l p q : Nat} {v u : Value} (hp : p < n) (hq : q < n) {a : Array Value} (h1 : a.size = n) (h2 : ∀ i, a.getD i undef = look L i (us i)) :
    Rel ⟨((#[p, q] : Array Tmp).zip #[v, u]).foldl (fun tmps (t, a) => tmps.setIfInBounds t a) a, []⟩ (slotsD n ((q, u) :: (p, v) :: L) us (some l) []) := by
  have h := rel_set h1 h2 hp v
  have h' := rel_set h.1 h.2 hq u
  have e : ((#[p, q] : Array Tmp).zip #[v, u]).foldl (fun tmps (t, a) => tmps.setIfInBounds t a) a = (a.setIfInBounds p v).setIfInBounds q u := by simp [Array.zip]
  rw [e]
  exact ⟨⟨h'.1, rfl⟩, h'.2⟩

def rounds {σ ρ : Type} (body : Nat → (σ → Option ρ) → σ → Option ρ) (done : σ → Option ρ) : Nat → Nat → σ → Option ρ
  | 0, _, s => done s
  | m + 1, k, s => body k (rounds body done m (k + 1)) s
theorem rounds_at {σ ρ : Type} {body : Nat → (σ → Option ρ) → σ → Option ρ} {done : σ → Option ρ} {n k : Nat} (hk : k < n) (s : σ) : rounds body done (n - k) k s = body k (rounds body done (n - (k + 1)) (k + 1)) s := by
  obtain ⟨m, hm⟩ : ∃ m, n - k = m + 1 := ⟨n - k - 1, by omega⟩
  rw [hm, show n - (k + 1) = m by omega]
  rfl
theorem rounds_end {σ ρ : Type} {body : Nat → (σ → Option ρ) → σ → Option ρ} {done : σ → Option ρ} {n : Nat} (s : σ) : rounds body done (n - n) n s = done s := by
  rw [Nat.sub_self]
  rfl

def keepA (w0 : World) : Asn where
  P B w l := l = [] ∧ w0.heap.size = B ∧ B ≤ w.heap.size ∧ ∀ b, b < B → w.heap[b]? = w0.heap[b]?
  stable := by
    rintro B w w' l ⟨rfl, h0, h1, h2⟩ hz hb
    exact ⟨rfl, h0, Nat.le_trans h1 hz, fun b hlt => (hb b (Nat.lt_of_lt_of_le hlt h1) (.inl hlt)).trans (h2 b hlt)⟩
  low := by
    rintro B w l ⟨rfl, _⟩ c hc
    simp at hc

def Kept (w0 w : World) : Prop := ∀ b, b < w0.heap.size → w.heap[b]? = w0.heap[b]?
theorem keepA_at {w0 : World} {B : Nat} {w : World} {l : List Nat} (h : (keepA w0).P B w l) : Kept w0 w := by
  obtain ⟨_, h0, _, h2⟩ := h
  intro b hb
  exact h2 b (by omega)
theorem Kept.blk {w0 w : World} (h : Kept w0 w) {b : Nat} {o : Obj} (hb : w0.heap[b]? = some o) : w.heap[b]? = some o := by
  rw [h b (Array.getElem?_eq_some_iff.1 hb).1]; exact hb
theorem Kept.cell {w0 w : World} (h : Kept w0 w) {ad : Addr} {v : Value} (hc : w0.cell? ad = some v) : w.cell? ad = some v := by
  have hb := World.block_lt_of_cell? w0 ad hc
  rw [World.cell?_of_block (w := w0) (h ad.block hb)]
  exact hc
theorem Kept.cells {w0 w : World} (h : Kept w0 w) {a : Option Addr} {cs : List Value} (hc : CellsAt a cs w0) : CellsAt a cs w := by
  cases a with
  | none => exact hc
  | some ad => exact fun j v hv => h.cell (hc j v hv)
theorem Kept.map {w0 w : World} (h : Kept w0 w) {b : Nat} {l : List (Int × Int)} (hm : MapAt b l w0) : MapAt b l w := by
  obtain ⟨es, clock, hb, he⟩ := hm
  exact ⟨es, clock, h.blk hb, he⟩
theorem Kept.view {w0 w : World} (h : Kept w0 w) {p : Value} {img : List Int} {l : List (Int × Int)} (hv : ViewAt p img l w0) : ViewAt p img l w := by
  obtain ⟨x, h1, h2, h3, h4, h5, h6, h7⟩ := hv
  exact ⟨x, h1, h2, h.blk h3, h.cells h4, h.map h5, h.cells h6, h7⟩
theorem St.kept {B : Nat} {w0 w w00 : World} {l0 : List Nat} {H : List Asn} (hs : St B w0 l0 w H) (j : Nat) (hj : H[j]? = some (keepA w00)) : Kept w00 w := hs.entAt j hj keepA_at

theorem spec_K {P : Program} {f : FuncId} {fn : Func} {c : Code} {args : Array Value} {B : Nat} {w : World} {post : Value → Prop} (hf : P.funcs[f]? = some fn) (hb : fn.body = some c)
    (h : ∀ B', B' = w.heap.size → St B' w [] w [keepA w] → W P c (initF fn.ntmps args) w (retQ P fn fun v w' => post v ∧ St B' w [] w' [])) : Spec P f args B w [] (fun v H' => post v ∧ H' = []) := by
  intro l hB hs
  have hl : l = [] := List.eq_nil_iff_forall_not_mem.2 hs
  subst hl
  have h0 : St w.heap.size w [] w [keepA w] := St.begin (Nat.le_refl _) ⟨[], [], ⟨rfl, rfl, Nat.le_refl _, fun _ _ => rfl⟩, fun b => by simp, fun b _ => by simp, by simp⟩
  refine (calls_W hf hb (h _ rfl h0)).mono ?_
  rintro e w' ⟨v, rfl, hp, _, _, l', hs', hu⟩
  exact ⟨v, rfl, [], l', ⟨hp, rfl⟩, hs', hu⟩

theorem St.keep2 {B : Nat} {w0 w w00 : World} {l0 : List Nat} {R : List Asn} (hs : St B w0 l0 w (keepA w00 :: R)) : St B w0 l0 w (keepA w00 :: keepA w00 :: R) :=
  St.to (post := [keepA w00, keepA w00]) hs fun l h => by
    have hl : l = [] := h.1
    subst hl
    exact ⟨[], [], h, ⟨[], [], h, fun b => by simp, fun b _ => by simp, by simp⟩, fun b _ => by simp, by simp⟩
end Go.Proofs.YtmmclabkkigiaaaDoor

namespace Go.Proofs.YtmmclabkkigiaaaDoor
open Go Go.RowKit
set_option linter.unusedVariables false
section
variable {M : Bool} {P : Program} {ops : Array Oper} {i : Nat} {s : Fs} {w : World} {K : Fs → World → Prop} {Q : Exit → Fs → World → Prop}
theorem zE (n : Nat) (hk : K (runS P ops n i s w) w) (h : (runN P ops n i s w).map (·.2) = some w := by kernel_rfl) (hd : ops.size = i + n := by kernel_rfl) : OpsAt M P ops i s w K := ops_run n h (ops_done hd hk)
theorem zD (hk : K s w) (hd : ops.size = i := by kernel_rfl) : OpsAt M P ops i s w K := ops_done hd hk
theorem zR (n : Nat) (hk : OpsAt M P ops (i + n) (runS P ops n i s w) w K) (h : (runN P ops n i s w).map (·.2) = some w := by kernel_rfl) : OpsAt M P ops i s w K := ops_run n h hk
theorem zS (j : Nat) {b b' : Bool} (hb : b = b') (hk : OpsAt M P ops i (s.set j (.bool b')) w K) (h : s.f j = .bool b := by kernel_rfl) : OpsAt M P ops i s w K := ops_set j (eq_bool_of h hb) hk
theorem zI {k : IntKind} (x : Int) (hb : k.wrap x = x) (hk : OpsAt M P ops (i + 1) (putS s (dstOf ops i) (.int k x)) w K) (h : valQ P ops i s w = some (.int k (k.wrap x), w) := by kernel_rfl) : OpsAt M P ops i s w K := ops_val h (congrArg (Value.int k) hb) hk
theorem zL (ad : Addr) (v : Value) (hc : w.cell? ad = some v) (hk : OpsAt M P ops (i + 1) (putS s (dstOf ops i) v) w K) (h : loadQ P ops i s = some ad := by kernel_rfl) : OpsAt M P ops i s w K := ops_R (runs_load h hc) hk
theorem zN {B : Nat} {w0 : World} {l0 : List Nat} {R : List Asn} (cs : List Value) (t : TypeId) (hs : St B w0 l0 w R) (hk : ∀ b w', St B w0 l0 w' (blk b (.cells cs.toArray t (0, 0)) :: R) → OpsAt M P ops (i + 1) (putS s (dstOf ops i) (.pointer (some ⟨b, 0, none⟩))) w' K)
    (hq : valQ P ops i s w = some ((fun b => .pointer (some ⟨b, 0, none⟩)) w.heap.size, w.alloc (.cells cs.toArray t (0, 0))) := by kernel_rfl) : OpsAt M P ops i s w K := ops_new (fun b => .pointer (some ⟨b, 0, none⟩)) _ hs hq hk
theorem W.sr {id : Nat} {ops : Array Oper} {y : Code} (h : ∀ K : Fs → World → Prop, (∀ s w, W P y s w Q → K s w) → OpsAt true P ops 0 s w (seqQ K Q .normal)) : W P (.seq (.region id ops false) y) s w Q := W.seq fun K hK => W.region (h K hK)
end
theorem iY {α : Type} {p : Prop} {d inst : Decidable p} {a b x : α} (e : @ite α p inst a b = x) (h : @decide p d = true) : p ∧ a = x := ⟨@of_decide_eq_true p d h, ite_yes e (@of_decide_eq_true p d h)⟩
theorem iN {α : Type} {p : Prop} {d inst : Decidable p} {a b x : α} (e : @ite α p inst a b = x) (h : @decide p d = false) : ¬ p ∧ b = x := ⟨@of_decide_eq_false p d h, ite_no e (@of_decide_eq_false p d h)⟩
section
variable {M : Bool} {P : Program} {ops : Array Oper} {i : Nat} {s : Fs} {w : World} {K : Fs → World → Prop} {B : Nat} {w0 : World} {l0 : List Nat} {R : List Asn} {f : FuncId} {args : Array Value} {V : Value} {a0 a1 a2 a3 b0 b1 b2 b3 : Asn}
theorem zC00 (hs : St B w0 l0 w R) (hc : Spec P f args B w [] (fun v H' => v = V ∧ H' = [])) (hk : ∀ w', St B w0 l0 w' R → OpsAt M P ops (i + 1) (putS s (dstOf ops i) V) w' K) (hq : callQ P ops i s w = some (f, args, w) := by kernel_rfl) : OpsAt M P ops i s w K :=
  ops_call (pre := []) hs hq hc fun v H' w' h h' => by obtain ⟨rfl, rfl⟩ := h; exact hk w' h'
theorem zC11 (hs : St B w0 l0 w (a0 :: R)) (hc : Spec P f args B w [a0] (fun v H' => v = V ∧ H' = [b0])) (hk : ∀ w', St B w0 l0 w' (b0 :: R) → OpsAt M P ops (i + 1) (putS s (dstOf ops i) V) w' K) (hq : callQ P ops i s w = some (f, args, w) := by kernel_rfl) : OpsAt M P ops i s w K :=
  ops_call (pre := [a0]) hs hq hc fun v H' w' h h' => by obtain ⟨rfl, rfl⟩ := h; exact hk w' h'
theorem zC22 (hs : St B w0 l0 w (a0 :: a1 :: R)) (hc : Spec P f args B w [a0, a1] (fun v H' => v = V ∧ H' = [b0, b1])) (hk : ∀ w', St B w0 l0 w' (b0 :: b1 :: R) → OpsAt M P ops (i + 1) (putS s (dstOf ops i) V) w' K) (hq : callQ P ops i s w = some (f, args, w) := by kernel_rfl) : OpsAt M P ops i s w K :=
  ops_call (pre := [a0, a1]) hs hq hc fun v H' w' h h' => by obtain ⟨rfl, rfl⟩ := h; exact hk w' h'
end
end Go.Proofs.YtmmclabkkigiaaaDoor

set_option maxRecDepth 20000
namespace Go.Proofs.YtmmclabkkigiaaaDoor
open Go Go.RowKit
set_option linter.unusedSimpArgs false
set_option linter.unusedVariables false

theorem len_spec {p : Value} {img : List Int} {l : List (Int × Int)} (B : Nat) (w : World) (hv : ViewAt p img l w) : Spec Tryd.prog 57 #[p] B w [] (fun v H' => v = .int .i64 (img.length : Int) ∧ H' = []) := by
 refine spec_Q Tryd.func57 rfl fun hs => ?_
 have hv0 := hv
 obtain ⟨x, rfl, hok, hb, hi, hm, ho, hcap⟩ := hv
 refine W.sr fun K1 hK1 => ?_
 refine zE 1 (hK1 _ _ ?_)
 refine W.seq fun K2 hK2 => ?_
 refine W.sr fun K3 hK3 => ?_
 refine zE 2 (hK3 _ _ ?_)
 refine W.cond_false false (by kernel_rfl) rfl ?_
 refine W.skip ?_
 refine hK2 _ _ ?_
 refine W.sr fun K4 hK4 => ?_
 refine zR 3 ?_
 refine zL ⟨x.b, 0, none⟩ (.slice x.ia img.length x.ic) (cell_of_blk (hs.old hb) rfl) ?_
 refine zE 2 (hK4 _ _ ?_)
 refine W.ret ?_
 refine ret_of (.int .i64 (img.length : Int)) (by kernel_rfl) ⟨_, ?_, hs⟩
 exact ⟨rfl, rfl⟩

theorem has_spec {p : Value} {img : List Int} {l : List (Int × Int)} {at_ : Int} (B : Nat) (w : World) (hv : ViewAt p img l w) : Spec Tryd.prog 63 #[p, (.int .i64 at_)] B w [] (fun v H' => v = .bool (decide (0 ≤ at_ ∧ at_ < (img.length : Int))) ∧ H' = []) := by
 refine spec_Q Tryd.func63 rfl fun hs => ?_
 have hv0 := hv
 obtain ⟨x, rfl, hok, hb, hi, hm, ho, hcap⟩ := hv
 refine W.sr fun K1 hK1 => ?_
 refine zE 1 (hK1 _ _ ?_)
 refine W.sr fun K2 hK2 => ?_
 refine zR 3 ?_
 rcases Bool.eq_false_or_eq_true (decide (at_ ≥ 0)) with h3 | h3
 ·
  have h3p := of_decide_eq_true h3
  refine zS 7 h3 ?_
  refine zS 6 h3 ?_
  refine zR 2 ?_
  refine zC00 hs (len_spec (hv := (viewAt_old hs hv0)) B _) fun w4 hs6 => ?_
  refine zE 3 (hK2 _ _ ?_)
  refine W.ret ?_
  refine ret_of (.bool (decide (at_ < (img.length : Int)))) (by kernel_rfl) ⟨_, ?_, hs6⟩
  exact ⟨congrArg Value.bool (decide_eq_decide.2 (by omega)), rfl⟩
 ·
  have h3p := of_decide_eq_false h3
  refine zS 7 h3 ?_
  refine zS 6 h3 ?_
  refine zE 6 (hK2 _ _ ?_)
  refine W.ret ?_
  refine ret_of (.bool false) (by kernel_rfl) ⟨_, ?_, hs⟩
  exact ⟨congrArg Value.bool (decide_eq_false (by omega)).symm, rfl⟩

theorem get_spec {p : Value} {img : List Int} {l : List (Int × Int)} {at_ : Int} (B : Nat) (w : World) (hv : ViewAt p img l w) : Spec Tryd.prog 30 #[p, (.int .i64 at_)] B w [] (fun v H' => v = .int .u64 (vget img l at_) ∧ H' = []) := by
 refine spec_Q Tryd.func30 rfl fun hs => ?_
 have hv0 := hv
 obtain ⟨x, rfl, hok, hb, hi, hm, ho, hcap⟩ := hv
 refine W.sr fun K1 hK1 => ?_
 refine zE 1 (hK1 _ _ ?_)
 refine W.seq fun K2 hK2 => ?_
 refine W.sr fun K3 hK3 => ?_
 refine zR 2 ?_
 refine zC00 hs (has_spec (at_ := at_) (hv := (viewAt_old hs hv0)) B _) fun w4 hs6 => ?_
 refine zE 1 (hK3 _ _ ?_)
 refine W.cond (!(decide (0 ≤ at_ ∧ at_ < (img.length : Int)))) (by kernel_rfl) (fun h7 => ?_) (fun h7 => ?_)
 ·
  have h7p : ¬ (0 ≤ at_ ∧ at_ < (img.length : Int)) := of_decide_eq_false (bnot_true h7)
  refine W.sr fun K8 hK8 => ?_
  refine zE 1 (hK8 _ _ ?_)
  refine W.ret (ret_seq ?_)
  refine ret_of (.int .u64 0) (by kernel_rfl) ⟨_, ?_, hs6⟩
  exact ⟨by simp only [vget]; rw [if_neg (by omega)], rfl⟩
 ·
  have h7p : 0 ≤ at_ ∧ at_ < (img.length : Int) := of_decide_eq_true (bnot_false h7)
  refine W.skip ?_
  refine hK2 _ _ ?_
  refine W.seq fun K9 hK9 => ?_
  refine W.sr fun K10 hK10 => ?_
  refine zR 3 ?_
  refine zL ⟨x.b, 1, none⟩ (.map (some x.mb)) (cell_of_blk (hs6.old hb) rfl) ?_
  refine zR 1 ?_
  refine ops_R (v := (.tuple #[(.int .u64 ((vlook l at_).getD 0)), (.bool ((vlook l at_).isSome))])) (runs_lookup (k := at_) (ok := true) (hs6.oldMap hm) (by kernel_rfl)) ?_
  refine zE 5 (hK10 _ _ ?_)
  refine W.sr fun K11 hK11 => ?_
  refine zE 1 (hK11 _ _ ?_)
  refine W.cond ((vlook l at_).isSome) (by kernel_rfl) (fun h12 => ?_) (fun h12 => ?_)
  ·
   have h12p : ((vlook l at_).isSome) = true := h12
   refine W.sr fun K13 hK13 => ?_
   refine zE 2 (hK13 _ _ ?_)
   refine W.ret (ret_seq ?_)
   refine ret_of (.int .u64 ((vlook l at_).getD 0)) (by kernel_rfl) ⟨_, ?_, hs6⟩
   exact ⟨congrArg (Value.int .u64) (by simp only [vget]; rw [if_pos (by omega)]; cases hq : vlook l at_ <;> simp_all), rfl⟩
  ·
   have h12p : ((vlook l at_).isSome) = false := h12
   refine W.skip ?_
   refine hK9 _ _ ?_
   refine W.sr fun K14 hK14 => ?_
   refine zR 3 ?_
   refine zL ⟨x.b, 0, none⟩ (.slice x.ia img.length x.ic) (cell_of_blk (hs6.old hb) rfl) ?_
   refine zR 1 ?_
   have hk15 : at_.toNat < img.length := by omega
   refine ops_R (runs_index (a := x.ia) (n := img.length) (z := at_) (size := 1) at_.toNat (by omega) hk15 (kU64.addr (hs6.oldCells hi) hk15) (by kernel_rfl)) ?_
   refine zL ((adr x.ia (at_.toNat * 1)).add 0) (.int .u64 (img.getD at_.toNat 0)) (kU64.at (hs6.oldCells hi) hk15 0 0 rfl) ?_
   refine zE 1 (hK14 _ _ ?_)
   refine W.ret ?_
   refine ret_of (.int .u64 (img.getD at_.toNat 0)) (by kernel_rfl) ⟨_, ?_, hs6⟩
   exact ⟨congrArg (Value.int .u64) (by simp only [vget]; rw [if_pos (by omega)]; cases hq : vlook l at_ <;> simp_all), rfl⟩

theorem put_spec {p : Value} {img : List Int} {l : List (Int × Int)} {at_ x_ : Int} (B : Nat) (w : World) : Spec Tryd.prog 90 #[p, (.int .i64 at_), (.int .u64 x_)] B w [viewA p img l] (fun v H' => v = .int .i64 (vput img l at_ x_).1 ∧ H' = [viewA p img (vput img l at_ x_).2]) := by
 refine spec_W Tryd.func90 rfl fun l0 hs => ?_
 have hv0 := hs.entAt 0 rfl viewA_at
 obtain ⟨x, ⟨rfl, hok⟩, hs0⟩ := St.open hs
 have hs1 : St B w l0 w [blk x.b (.cells [(.slice x.ia img.length x.ic), (.map (some x.mb)), (.slice x.oa ((l.map (·.1)).length) x.oc)].toArray 91 (0, 0)), kU64.row x.ia x.ic img, mapA x.mb l, kInt.row x.oa x.oc (l.map (·.1))] := hs0
 have hlm : (l.map (·.1)).length = l.length := List.length_map _
 have hroom := hok.many
 refine W.sr fun K1 hK1 => ?_
 refine zE 1 (hK1 _ _ ?_)
 refine W.seq fun K2 hK2 => ?_
 refine W.sr fun K3 hK3 => ?_
 refine zE 2 (hK3 _ _ ?_)
 refine W.cond_false false (by kernel_rfl) rfl ?_
 refine W.skip ?_
 refine hK2 _ _ ?_
 refine W.seq fun K4 hK4 => ?_
 refine W.sr fun K5 hK5 => ?_
 refine zR 2 ?_
 refine zC00 hs1 (has_spec (p := ptr x.b) (img := img) (l := l) (at_ := at_) (hv := ⟨x, rfl, hok, hs1.heapAt 0 rfl, St.kcells kU64 hs1 1 rfl, hs1.mapAt 2 rfl, St.kcells kInt hs1 3 rfl, St.capnil kU64 hs1 1 rfl⟩) B _) fun w6 hs8 => ?_
 refine zE 1 (hK5 _ _ ?_)
 refine W.cond (!(decide (0 ≤ at_ ∧ at_ < (img.length : Int)))) (by kernel_rfl) (fun h9 => ?_) (fun h9 => ?_)
 ·
  have h9p : ¬ (0 ≤ at_ ∧ at_ < (img.length : Int)) := of_decide_eq_false (bnot_true h9)
  refine W.sr fun K10 hK10 => ?_
  refine zE 1 (hK10 _ _ ?_)
  refine W.ret (ret_seq ?_)
  refine ret_of (.int .i64 8) (by kernel_rfl) ⟨_, ⟨?_, rfl⟩, ?_⟩
  · simp only [vput]; rw [if_neg (by omega)]
  · simp only [vput]; rw [if_neg (by omega)]; exact view_close hok hs8
 ·
  have h9p : 0 ≤ at_ ∧ at_ < (img.length : Int) := of_decide_eq_true (bnot_false h9)
  refine W.skip ?_
  refine hK4 _ _ ?_
  refine W.seq fun K11 hK11 => ?_
  refine W.sr fun K12 hK12 => ?_
  refine zR 3 ?_
  refine zL ⟨x.b, 1, none⟩ (.map (some x.mb)) (hs8.cellAt 0 rfl rfl) ?_
  refine zR 1 ?_
  refine ops_R (v := (.tuple #[(.int .u64 ((vlook l at_).getD 0)), (.bool ((vlook l at_).isSome))])) (runs_lookup (k := at_) (ok := true) (hs8.mapAt 2 rfl) (by kernel_rfl)) ?_
  refine zE 5 (hK12 _ _ ?_)
  refine W.sr fun K13 hK13 => ?_
  refine zE 2 (hK13 _ _ ?_)
  refine W.cond (!((vlook l at_).isSome)) (by kernel_rfl) (fun h14 => ?_) (fun h14 => ?_)
  ·
   have h14p : ((vlook l at_).isSome) = false := (bnot_true h14)
   refine W.seq fun K15 hK15 => ?_
   refine W.sr fun K16 hK16 => ?_
   refine zR 3 ?_
   refine zL ⟨x.b, 2, none⟩ (.slice x.oa ((l.map (·.1)).length) x.oc) (hs8.cellAt 0 rfl rfl) ?_
   refine zE 2 (hK16 _ _ ?_)
   refine W.cond (decide ((((l.map (·.1)).length) : Int) ≥ 96)) (by kernel_rfl) (fun h17 => ?_) (fun h17 => ?_)
   ·
    have h17p := of_decide_eq_true h17
    refine W.sr fun K18 hK18 => ?_
    refine zE 1 (hK18 _ _ ?_)
    refine W.ret (ret_seq (ret_seq ?_))
    have hn : vlook l at_ = none := by cases hq : vlook l at_ <;> simp_all
    have hmany : 96 ≤ l.length := by omega
    have e : vput img l at_ x_ = (5, l) := by simp only [vput]; rw [if_pos (by omega), hn]; exact if_pos hmany
    refine ret_of (.int .i64 5) (by kernel_rfl) ⟨_, ⟨by rw [e], rfl⟩, ?_⟩
    rw [e]; exact view_close (l := l) hok hs8
   ·
    have h17p := of_decide_eq_false h17
    refine W.skip ?_
    refine hK15 _ _ ?_
    refine W.region ?_
    refine zR 4 ?_
    refine zL ⟨x.b, 2, none⟩ (.slice x.oa ((l.map (·.1)).length) x.oc) (hs8.cellAt 0 rfl rfl) ?_
    refine zR 1 ?_
    refine ops_new (fun b => .slice (some ⟨b, 0, none⟩) 1 1) (.cells [(.int .i64 at_)].toArray 3 (0, 0)) hs8 (by kernel_rfl) (fun b21 w19 hs20 => ?_)
    have hs22 := St.f4 hs20
    refine ops_appendK kInt (bytes := 8) (a' := (some ⟨b21, 0, none⟩)) (c' := 1) (l := (l.map (·.1))) (m := [at_]) hs22 (by kernel_rfl) (by simp) (cells_blk (hs22.heapAt 1 rfl)) (by (unfold maxLen; try simp) <;> omega) (by (try simp) <;> omega) (fun a23 c24 w25 hs26 => ?_)
    refine zR 2 ?_
    have hs29 := St.f2 hs26
    refine ops_store (off := 2) (cs := [(.slice x.ia img.length x.ic), (.map (some x.mb)), (.slice x.oa ((l.map (·.1)).length) x.oc)]) (vs := [(.slice a23 (((l.map (·.1)) ++ [at_]).length) c24)]) hs29 (by kernel_rfl) (by simp) rfl (fun w27 hs28 => ?_)
    have hs30 : St B w l0 w27 [blk x.b (.cells [(.slice x.ia img.length x.ic), (.map (some x.mb)), (.slice a23 (((l.map (·.1)) ++ [at_]).length) c24)].toArray 91 (0, 0)), kInt.row a23 c24 ((l.map (·.1)) ++ [at_]), blk b21 (.cells [(.int .i64 at_)].toArray 3 (0, 0)), kU64.row x.ia x.ic img, mapA x.mb l] := hs28
    refine zD (hK11 _ _ ?_)
    refine W.sr fun K31 hK31 => ?_
    refine zR 3 ?_
    refine zL ⟨x.b, 1, none⟩ (.map (some x.mb)) (hs30.cellAt 0 rfl rfl) ?_
    refine zR 2 ?_
    have hs32 := St.f4 hs30
    refine ops_mapUpdate (k := at_) (v := x_) hs32 hok.keys (by kernel_rfl) (fun w33 hs34 => ?_)
    refine zD (hK31 _ _ ?_)
    refine W.sr fun K35 hK35 => ?_
    refine zE 1 (hK35 _ _ ?_)
    refine W.ret ?_
    have hs36 := St.f2 hs34
    have hs37 := St.f1 hs36
    have hs38 := St.f4 hs37
    have hs39 := St.f3 hs38
    have hs40 := St.tk4 hs39
    have hn : vlook l at_ = none := by cases hq : vlook l at_ <;> simp_all
    have hmany : l.length < 96 := by omega
    have e : vput img l at_ x_ = (0, vset l at_ x_) := by simp only [vput]; rw [if_pos (by omega), hn]; exact if_neg (by omega)
    have ek : l.map (·.1) ++ [at_] = (vset l at_ x_).map (·.1) := by rw [vset_none hn]; simp
    rw [ek] at hs40
    refine ret_of (.int .i64 0) (by kernel_rfl) ⟨_, ⟨by rw [e], rfl⟩, ?_⟩
    rw [e]; exact view_close (l := vset l at_ x_) (ia := x.ia) (ic := x.ic) (mb := x.mb) (oa := a23) (oc := c24) (hok.put (by omega) (.inr hmany)) hs40
  ·
   have h14p : ((vlook l at_).isSome) = true := (bnot_false h14)
   refine W.skip ?_
   refine hK11 _ _ ?_
   refine W.sr fun K41 hK41 => ?_
   refine zR 3 ?_
   refine zL ⟨x.b, 1, none⟩ (.map (some x.mb)) (hs8.cellAt 0 rfl rfl) ?_
   refine zR 2 ?_
   have hs42 := St.f2 hs8
   refine ops_mapUpdate (k := at_) (v := x_) hs42 hok.keys (by kernel_rfl) (fun w43 hs44 => ?_)
   refine zD (hK41 _ _ ?_)
   refine W.sr fun K45 hK45 => ?_
   refine zE 1 (hK45 _ _ ?_)
   refine W.ret ?_
   have hs46 := St.f3 hs44
   have hs47 := St.f1 hs46
   have hs48 := St.f3 hs47
   have hs49 := St.f3 hs48
   have hn : (vlook l at_).isSome = true := by simp_all
   have e : vput img l at_ x_ = (0, vset l at_ x_) := by simp only [vput]; rw [if_pos (by omega)]; cases hq : vlook l at_ <;> simp_all
   have ek : l.map (·.1) = (vset l at_ x_).map (·.1) := (vset_keys_some hn).symm
   rw [ek] at hs49
   refine ret_of (.int .i64 0) (by kernel_rfl) ⟨_, ⟨by rw [e], rfl⟩, ?_⟩
   rw [e]; exact view_close (l := vset l at_ x_) (ia := x.ia) (ic := x.ic) (mb := x.mb) (oa := x.oa) (oc := x.oc) (hok.put (by omega) (.inl hn)) hs49

end Go.Proofs.YtmmclabkkigiaaaDoor

set_option maxRecDepth 20000
namespace Go.Proofs.YtmmclabkkigiaaaDoor
open Go Go.RowKit
set_option linter.unusedSimpArgs false
set_option linter.unusedVariables false

theorem clone_some {ad : Addr} {c : Nat} {xs : List Int} (B : Nat) (w : World) (hc : CellsAt (some ad) (kU64.cells xs) w) (hsz : xs.length ≤ 17592186044415) : Spec Tryd.prog 43 #[(.slice (some ad) xs.length c)] B w [] (fun v H' => ∃ a' c', v = .slice a' xs.length c' ∧ H' = [kU64.row a' c' xs]) := by
 refine spec_Q Tryd.func43 rfl fun hs => ?_
 refine W.sr fun K1 hK1 => ?_
 refine zE 1 (hK1 _ _ ?_)
 refine W.seq fun K2 hK2 => ?_
 refine W.sr fun K3 hK3 => ?_
 refine zE 2 (hK3 _ _ ?_)
 refine W.cond_false false (by kernel_rfl) rfl ?_
 refine W.skip ?_
 refine hK2 _ _ ?_
 refine W.sr fun K4 hK4 => ?_
 refine ops_new (fun b => .slice (some ⟨b, 0, none⟩) 0 0) (.cells [].toArray 43 (0, 0)) hs (by kernel_rfl) (fun b7 w5 hs6 => ?_)
 refine zR 1 ?_
 have hs8 : St B w [] w5 [kU64.row (some ⟨b7, 0, none⟩) 0 ([])] := St.kblk kU64 [] hs6 rfl rfl (by simp only [List.length_cons, List.length_nil]; decide)
 refine ops_appendK kU64 (bytes := 8) (a' := (some ad)) (c' := c) (l := []) (m := xs) hs8 (by kernel_rfl) (by simp) (hs8.oldCells hc) (by (unfold maxLen; try simp) <;> omega) (by (try simp) <;> omega) (fun a9 c10 w11 hs12 => ?_)
 have hs13 : St B w [] w11 [kU64.row a9 c10 xs] := hs12
 refine zE 1 (hK4 _ _ ?_)
 refine W.ret ?_
 refine ret_of (.slice a9 xs.length c10) (by kernel_rfl) ⟨_, ?_, hs13⟩
 exact ⟨_, _, rfl, rfl⟩

theorem clone_nil  (B : Nat) (w : World) : Spec Tryd.prog 43 #[(.slice none 0 0)] B w [] (fun v H' => ∃ a' c', v = .slice a' 0 c' ∧ H' = [kU64.row a' c' []]) := by
 refine spec_Q Tryd.func43 rfl fun hs => ?_
 refine W.sr fun K1 hK1 => ?_
 refine zE 1 (hK1 _ _ ?_)
 refine W.seq fun K2 hK2 => ?_
 refine W.sr fun K3 hK3 => ?_
 refine zE 2 (hK3 _ _ ?_)
 refine W.cond_true true (by kernel_rfl) rfl ?_
 refine W.sr fun K4 hK4 => ?_
 refine zE 1 (hK4 _ _ ?_)
 refine W.ret (ret_seq ?_)
 have hk := St.knil kU64 hs
 refine ret_of (.slice none 0 0) (by kernel_rfl) ⟨_, ⟨none, 0, rfl, rfl⟩, hk⟩

theorem clone_spec {a : Option Addr} {c : Nat} {xs : List Int} (B : Nat) (w : World) (hc : CellsAt a (kU64.cells xs) w) (hn : a = none → c = 0) (hsz : xs.length ≤ 17592186044415) :
  Spec Tryd.prog 43 #[.slice a xs.length c] B w [] (fun v H' => ∃ a' c', v = .slice a' xs.length c' ∧ H' = [kU64.row a' c' xs]) := by
 cases a with
 | some ad => exact clone_some B w hc hsz
 | none =>
  have h1 := cells_none kU64 hc
  have h2 := hn rfl
  subst h1 h2
  exact clone_nil B w

theorem new_spec {a : Option Addr} {c : Nat} {xs : List Int} (B : Nat) (w : World) (hc : CellsAt a (kU64.cells xs) w) (hn : a = none → c = 0) (hsz : xs.length ≤ 17592186044415) : Spec Tryd.prog 14 #[(.slice a xs.length c)] B w [] (fun v H' => ∃ b, v = ptr b ∧ H' = [viewA (ptr b) xs []]) := by
 refine spec_Q Tryd.func14 rfl fun hs => ?_
 refine W.sr fun K1 hK1 => ?_
 refine zE 1 (hK1 _ _ ?_)
 refine W.sr fun K2 hK2 => ?_
 refine zR 1 ?_
 refine ops_call0 hs (by kernel_rfl) (clone_spec (hc := (hs.oldCells hc)) (hn := hn) (hsz := hsz) B _) ?_
 rintro _ _ w5 ⟨a3, c4, rfl, rfl⟩ hs6
 have hs7 := St.ap1 hs6
 refine ops_makeMap hs7 (by kernel_rfl) (fun b10 w8 hs9 => ?_)
 refine zR 1 ?_
 refine zN [(.slice a3 xs.length c4), (.map (some b10)), (.slice none 0 0)] 91 hs9 fun b13 w11 hs12 => ?_
 refine zE 1 (hK2 _ _ ?_)
 refine W.ret ?_
 have hs14 := St.f1 hs12
 have hs15 := St.f2 hs14
 have hs16 := St.f2 hs15
 have hk := St.knil kInt hs16
 have hk2 := hk.perm (H' := [blk b13 (.cells [(.slice a3 xs.length c4), (.map (some b10)), (.slice none 0 0)].toArray 91 (0, 0)), kU64.row a3 c4 xs, mapA b10 ([]), kInt.row none 0 []]) (perm_last _ _)
 refine ret_of (.pointer (some ⟨b13, 0, none⟩)) (by kernel_rfl) ⟨_, ⟨b13, rfl, rfl⟩, ?_⟩
 exact view_close (l := []) (ia := a3) (ic := c4) (mb := b10) (oa := none) (oc := 0) (VOk.nil hsz) hk2

theorem writes_spec {p : Value} {img : List Int} {l : List (Int × Int)} (B : Nat) (w : World) (hv : ViewAt p img l w) : Spec Tryd.prog 36 #[p] B w [] (fun v H' => ∃ a' c', v = .slice a' l.length c' ∧ H' = [kWr.row a' c' l]) := by
 refine spec_Q Tryd.func36 rfl fun hs => ?_
 have hv0 := hv
 obtain ⟨x, rfl, hok, hb, hi, hm, ho, hcap⟩ := hv
 have hlm : (l.map (·.1)).length = l.length := List.length_map _
 have hroom := hok.many
 refine W.sr fun K1 hK1 => ?_
 refine zE 1 (hK1 _ _ ?_)
 refine W.seq fun K2 hK2 => ?_
 refine W.sr fun K3 hK3 => ?_
 refine zE 2 (hK3 _ _ ?_)
 refine W.cond_false false (by kernel_rfl) rfl ?_
 refine W.skip ?_
 refine hK2 _ _ ?_
 refine W.seq fun K4 hK4 => ?_
 refine W.sr fun K5 hK5 => ?_
 refine zR 3 ?_
 refine zL ⟨x.b, 2, none⟩ (.slice x.oa ((l.map (·.1)).length) x.oc) (cell_of_blk (hs.old hb) rfl) ?_
 refine zE 2 (hK5 _ _ ?_)
 refine W.block ?_
 have hz0 := St.knil kWr hs
 refine W.loop (G := Nat × Option Addr × Nat) (fun | (k, a, c), s_, w_ => (∃ us, s_ = slots 29 [(0, (.pointer (some ⟨x.b, 0, none⟩))), (2, (.slice a ((l.take k).length) c)), (10, (.slice x.oa ((l.map (·.1)).length) x.oc)), (11, (.int .i64 (((l.map (·.1)).length) : Int))), (12, (.int .i64 (k : Int)))] us) ∧ St B w [] w_ [kWr.row a c (l.take k)] ∧ (k ≤ l.length)) (fun | (k, a, c) => l.length - k) (0, none, 0) ⟨slots_intro _ (by kernel_rfl), hz0, Nat.zero_le _⟩ ?_
 rintro ⟨k, a, c⟩ _ w6 ⟨⟨us, rfl⟩, hs7, hk_⟩
 refine W.sr fun K8 hK8 => ?_
 refine zE 1 (hK8 _ _ ?_)
 refine W.seq fun K9 hK9 => ?_
 refine W.cond (decide ((k : Int) < (((l.map (·.1)).length) : Int))) (by kernel_rfl) (fun h10 => ?_) (fun h10 => ?_)
 ·
  have h10p := of_decide_eq_true h10
  refine W.skip ?_
  refine hK9 _ _ ?_
  refine W.seq fun K11 hK11 => ?_
  refine W.block ?_
  refine W.sr fun K12 hK12 => ?_
  have hk13 : k < (l.map (·.1)).length := by omega
  refine ops_R (runs_index (a := x.oa) (n := (l.map (·.1)).length) (z := (k : Int)) (size := 1) k rfl hk13 (kInt.addr (hs7.oldCells ho) hk13) (by kernel_rfl)) ?_
  refine zL ((adr x.oa (k * 1)).add 0) (.int .i64 ((l.map (·.1)).getD k 0)) (kInt.at (hs7.oldCells ho) hk13 0 0 rfl) ?_
  refine zE 1 (hK12 _ _ ?_)
  refine W.region ?_
  refine zR 5 ?_
  refine zL ⟨x.b, 1, none⟩ (.map (some x.mb)) (cell_of_blk (hs7.old hb) rfl) ?_
  refine zR 1 ?_
  refine ops_R (v := (.int .u64 ((vlook l ((l.map (·.1)).getD k 0)).getD 0))) (runs_lookup (k := ((l.map (·.1)).getD k 0)) (ok := false) (hs7.oldMap hm) (by kernel_rfl)) ?_
  refine zR 1 ?_
  refine ops_new (fun b => .slice (some ⟨b, 0, none⟩) 1 1) (.cells [(.int .i64 ((l.map (·.1)).getD k 0)), (.int .u64 ((vlook l ((l.map (·.1)).getD k 0)).getD 0))].toArray 126 (0, 0)) hs7 (by kernel_rfl) (fun b16 w14 hs15 => ?_)
  have hs17 := St.f1 hs15
  refine ops_appendK kWr (bytes := 16) (a' := (some ⟨b16, 0, none⟩)) (c' := 1) (l := (l.take k)) (m := [(((l.map (·.1)).getD k 0), ((vlook l ((l.map (·.1)).getD k 0)).getD 0))]) hs17 (by kernel_rfl) (by simp) (cells_blk (hs17.heapAt 1 rfl)) (by (unfold maxLen; try simp) <;> omega) (by (try simp) <;> omega) (fun a18 c19 w20 hs21 => ?_)
  refine zE 1 ?_
  refine normal_block ?_
  refine hK11 _ _ ?_
  refine W.region ?_
  refine ops_val (v := .int .i64 (IntKind.i64.wrap ((k : Int) + 1))) (v' := .int .i64 ((k + 1 : Nat) : Int)) (by kernel_rfl) (congrArg (Value.int .i64) (wrap_i64 (by omega) (by omega))) ?_
  refine zE 1 ?_
  have e_ := writes_step hok.keys (k := k) (by omega)
  have hs22 := St.tk1 hs21
  rw [e_] at hs22
  exact ⟨(k + 1, a18, c19), ⟨slots_intro _ (by rw [← e_]; kernel_rfl), hs22, by omega⟩, by first | omega | (dsimp only; omega)⟩
 ·
  have h10p := of_decide_eq_false h10
  refine W.exit (exit_seq (exit_seq (exit_here ?_)))
  refine hK4 _ _ ?_
  refine W.sr fun K23 hK23 => ?_
  refine zE 2 (hK23 _ _ ?_)
  refine W.ret ?_
  have e_ : l.take k = l := List.take_of_length_le (by omega)
  have hs_ := hs7
  rw [e_] at hs_
  refine ret_of (.slice a ((l.take k).length) c) (by kernel_rfl) ⟨_, ⟨a, c, by rw [e_], rfl⟩, hs_⟩

end Go.Proofs.YtmmclabkkigiaaaDoor

set_option maxRecDepth 20000
namespace Go.Proofs.YtmmclabkkigiaaaDoor
open Go Go.RowKit
set_option linter.unusedSimpArgs false
set_option linter.unusedVariables false

theorem badf_spec {at_ x_ : Int} {bw n c : Nat} {a : Option Addr} (B : Nat) (w : World) (hb : w.heap[bw]? = some (.cells [.slice a n c].toArray 32 (0, 0))) : Spec Tryd.prog 85 #[(.agg #[(.int .i64 at_), (.int .u64 x_)]), (.pointer (some ⟨bw, 0, none⟩))] B w [] (fun v H' => v = .bool (bad n (at_, x_)) ∧ H' = []) := by
 refine spec_Q Tryd.func85 rfl fun hs => ?_
 refine W.sr fun K1 hK1 => ?_
 refine zN [(.int .i64 at_), (.int .u64 x_)] 126 hs fun b4 w2 hs3 => ?_
 refine zE 1 (hK1 _ _ ?_)
 refine W.sr fun K5 hK5 => ?_
 refine zR 1 ?_
 refine zL ⟨b4, 0, none⟩ (.int .i64 at_) (hs3.cellAt 0 rfl rfl) ?_
 refine zR 2 ?_
 rcases Bool.eq_false_or_eq_true (decide (at_ < 0)) with h6 | h6
 ·
  have h6p := of_decide_eq_true h6
  refine zS 7 h6 ?_
  refine zS 6 h6 ?_
  refine zE 7 (hK5 _ _ ?_)
  refine W.ret ?_
  have hs7 := St.tk0 hs3
  refine ret_of (.bool true) (by kernel_rfl) ⟨_, ⟨(congrArg Value.bool (decide_eq_true (by dsimp only; omega)).symm), rfl⟩, hs7⟩
 ·
  have h6p := of_decide_eq_false h6
  refine zS 7 h6 ?_
  refine zS 6 h6 ?_
  refine zR 1 ?_
  refine zL ⟨b4, 0, none⟩ (.int .i64 at_) (hs3.cellAt 0 rfl rfl) ?_
  refine zL ⟨bw, 0, none⟩ (.slice a n c) (cell_of_blk (hs3.old hb) rfl) ?_
  refine zE 4 (hK5 _ _ ?_)
  refine W.ret ?_
  have hs8 := St.tk0 hs3
  refine ret_of (.bool (decide (at_ ≥ (n : Int)))) (by kernel_rfl) ⟨_, ⟨(congrArg Value.bool (decide_eq_decide.2 (by dsimp only; omega))), rfl⟩, hs8⟩

theorem indexf_spec {la : Option Addr} {lc : Nat} {l : List (Int × Int)} {bw n c : Nat} {a : Option Addr} (B : Nat) (w : World) (hl : CellsAt la (kWr.cells l) w) (hb : w.heap[bw]? = some (.cells [.slice a n c].toArray 32 (0, 0))) (hsz : l.length ≤ 9223372036854775806) : Spec Tryd.prog 96 #[(.slice la l.length lc), (.func (.func 85) #[] #[(.pointer (some ⟨bw, 0, none⟩))])] B w [] (fun v H' => ∃ r : Int, (0 ≤ r ↔ l.any (bad n) = true) ∧ v = .int .i64 r ∧ H' = []) := by
 refine spec_Q Tryd.func96 rfl fun hs => ?_
 refine W.sr fun K1 hK1 => ?_
 refine zE 1 (hK1 _ _ ?_)
 refine W.seq fun K2 hK2 => ?_
 refine W.sr fun K3 hK3 => ?_
 refine zE 3 (hK3 _ _ ?_)
 refine W.block ?_
 refine W.loop (G := Nat) (fun | k, s_, w_ => (∃ us, s_ = slots 19 [(0, (.slice la l.length lc)), (1, (.func (.func 85) #[] #[(.pointer (some ⟨bw, 0, none⟩))])), (7, (.int .i64 (l.length : Int))), (8, (.int .i64 (k : Int)))] us) ∧ St B w [] w_ [] ∧ (k ≤ l.length) ∧ (∀ j, j < k → bad n (l.getD j (0, 0)) = false)) (fun k => l.length - k) 0 ⟨slots_intro _ (by kernel_rfl), hs, Nat.zero_le _, fun j hj => absurd hj (by omega)⟩ ?_
 rintro k _ w4 ⟨⟨us, rfl⟩, hs5, hk_, hk1⟩
 refine W.sr fun K6 hK6 => ?_
 refine zE 1 (hK6 _ _ ?_)
 refine W.seq fun K7 hK7 => ?_
 refine W.cond (decide ((k : Int) < (l.length : Int))) (by kernel_rfl) (fun h8 => ?_) (fun h8 => ?_)
 ·
  have h8p := of_decide_eq_true h8
  refine W.skip ?_
  refine hK7 _ _ ?_
  refine W.seq fun K9 hK9 => ?_
  refine W.block ?_
  refine W.sr fun K10 hK10 => ?_
  refine zE 2 (hK10 _ _ ?_)
  refine W.sr fun K11 hK11 => ?_
  refine zR 3 ?_
  have hk12 : k < l.length := by omega
  refine ops_R (runs_index (a := la) (n := l.length) (z := (k : Int)) (size := 2) k rfl hk12 (kWr.addr (hs5.oldCells hl) hk12) (by kernel_rfl)) ?_
  refine ops_R (runs_loadAgg (cs := [(.int .i64 ((l.getD k (0, 0)).1)), (.int .u64 ((l.getD k (0, 0)).2))]) (by kernel_rfl) (kWr.all (hs5.oldCells hl) hk12 (0, 0) 0 rfl)) ?_
  refine zC00 hs5 (badf_spec (at_ := (l.getD k (0, 0)).1) (x_ := (l.getD k (0, 0)).2) (hb := (hs5.old hb)) B _) fun w13 hs15 => ?_
  refine zD (hK11 _ _ ?_)
  refine W.cond (bad n ((l.getD k (0, 0)).1, (l.getD k (0, 0)).2)) (by kernel_rfl) (fun h16 => ?_) (fun h16 => ?_)
  ·
   have h16p : (bad n ((l.getD k (0, 0)).1, (l.getD k (0, 0)).2)) = true := h16
   refine W.sr fun K17 hK17 => ?_
   refine zE 2 (hK17 _ _ ?_)
   refine W.ret (ret_block (ret_seq (ret_seq (ret_block (ret_seq ?_)))))
   refine ret_of (.int .i64 (k : Int)) (by kernel_rfl) ⟨_, ⟨_, ⟨fun _ => any_of_get (k := k) (by omega) (by assumption), fun _ => by omega⟩, rfl, rfl⟩, hs15⟩
  ·
   have h16p : (bad n ((l.getD k (0, 0)).1, (l.getD k (0, 0)).2)) = false := h16
   refine W.skip ?_
   refine normal_block ?_
   refine hK9 _ _ ?_
   refine W.region ?_
   refine ops_val (v := .int .i64 (IntKind.i64.wrap ((k : Int) + 1))) (v' := .int .i64 ((k + 1 : Nat) : Int)) (by kernel_rfl) (congrArg (Value.int .i64) (wrap_i64 (by omega) (by omega))) ?_
   refine zE 1 ?_
   have hk2 : ∀ j, j < k + 1 → bad n (l.getD j (0, 0)) = false := fun j hj => (Nat.lt_succ_iff_lt_or_eq.1 hj).elim (hk1 j) (fun e => by subst e; assumption)
   exact ⟨k + 1, ⟨slots_intro _ (by kernel_rfl), hs15, by omega, hk2⟩, by first | omega | (dsimp only; omega)⟩
 ·
  have h8p := of_decide_eq_false h8
  refine W.exit (exit_seq (exit_seq (exit_here ?_)))
  refine hK2 _ _ ?_
  refine W.sr fun K18 hK18 => ?_
  refine zE 1 (hK18 _ _ ?_)
  refine W.ret ?_
  refine ret_of (.int .i64 (-1)) (by kernel_rfl) ⟨_, ⟨_, ⟨fun h => absurd h (by decide), fun h => absurd (any_none (fun j hj => hk1 j (by omega))) (by rw [h]; decide)⟩, rfl, rfl⟩, hs5⟩

theorem contains_spec {la : Option Addr} {lc : Nat} {l : List (Int × Int)} {bw n c : Nat} {a : Option Addr} (B : Nat) (w : World) (hl : CellsAt la (kWr.cells l) w) (hb : w.heap[bw]? = some (.cells [.slice a n c].toArray 32 (0, 0))) (hsz : l.length ≤ 9223372036854775806) : Spec Tryd.prog 84 #[(.slice la l.length lc), (.func (.func 85) #[] #[(.pointer (some ⟨bw, 0, none⟩))])] B w [] (fun v H' => v = .bool (l.any (bad n)) ∧ H' = []) := by
 refine spec_Q Tryd.func84 rfl fun hs => ?_
 refine W.sr fun K1 hK1 => ?_
 refine zE 1 (hK1 _ _ ?_)
 refine W.sr fun K2 hK2 => ?_
 refine zR 2 ?_
 refine ops_call0 hs (by kernel_rfl) (indexf_spec (lc := lc) (hsz := hsz) (hl := (hs.oldCells hl)) (hb := (hs.old hb)) B _) ?_
 rintro _ _ w5 ⟨r3, hr4, rfl, rfl⟩ hs6
 have hs7 := St.ap0 hs6
 refine zE 2 (hK2 _ _ ?_)
 refine W.ret ?_
 refine ret_of (.bool (decide (r3 ≥ 0))) (by kernel_rfl) ⟨_, ⟨congrArg Value.bool (by rw [Bool.eq_iff_iff, decide_eq_true_eq]; exact hr4), rfl⟩, hs7⟩

end Go.Proofs.YtmmclabkkigiaaaDoor

set_option maxRecDepth 20000
namespace Go.Proofs.YtmmclabkkigiaaaDoor
open Go Go.RowKit
set_option linter.unusedSimpArgs false
set_option linter.unusedVariables false

theorem apply_spec {wa la : Option Addr} {wc lc : Nat} {words : List Int} {l : List (Int × Int)} {A : Asn} (B : Nat) (w : World) (hA : ∀ {B : Nat} {w : World} {lf : List Nat}, A.P B w lf → CellsAt la (kWr.cells l) w) (hsz : l.length ≤ 9223372036854775806) : Spec Tryd.prog 54 #[(.slice wa words.length wc), (.slice la l.length lc)] B w [kU64.row wa wc words, A] (fun v H' => v = .int .i64 (vapply words l).1 ∧ H' = [kU64.row wa wc (vapply words l).2, A]) := by
 refine spec_W Tryd.func54 rfl fun l0 hs => ?_
 refine W.sr fun K1 hK1 => ?_
 refine zN [(.slice wa words.length wc)] 32 hs fun b4 w2 hs3 => ?_
 refine zE 1 (hK1 _ _ ?_)
 refine W.seq fun K5 hK5 => ?_
 refine W.sr fun K6 hK6 => ?_
 refine zR 2 ?_
 refine zC00 hs3 (contains_spec (lc := lc) (hsz := (by omega)) (hl := (hs3.entAt 2 rfl hA)) (hb := (hs3.heapAt 0 rfl)) B _) fun w7 hs9 => ?_
 refine zD (hK6 _ _ ?_)
 refine W.cond (l.any (bad words.length)) (by kernel_rfl) (fun h10 => ?_) (fun h10 => ?_)
 ·
  have h10p : (l.any (bad words.length)) = true := h10
  refine W.sr fun K11 hK11 => ?_
  refine zE 1 (hK11 _ _ ?_)
  refine W.ret (ret_seq ?_)
  have hs12 := St.f2 hs9
  have hs13 := St.f2 hs12
  have hs14 := St.tk2 hs13
  have e_ : vapply words l = (8, words) := if_pos (by assumption)
  refine ret_of (.int .i64 8) (by kernel_rfl) ⟨_, ⟨by rw [e_], rfl⟩, by rw [e_]; exact hs14⟩
 ·
  have h10p : (l.any (bad words.length)) = false := h10
  refine W.skip ?_
  refine hK5 _ _ ?_
  refine W.seq fun K15 hK15 => ?_
  refine W.sr fun K16 hK16 => ?_
  refine zE 3 (hK16 _ _ ?_)
  refine W.block ?_
  refine W.loop (G := Nat) (fun | k, s_, w_ => (∃ us, s_ = slots 23 [(2, (.pointer (some ⟨b4, 0, none⟩))), (10, (.slice la l.length lc)), (11, (.int .i64 (l.length : Int))), (12, (.int .i64 (k : Int)))] us) ∧ St B w l0 w_ [blk b4 (.cells [(.slice wa words.length wc)].toArray 32 (0, 0)), kU64.row wa wc (vflat words (l.take k)), A] ∧ (k ≤ l.length)) (fun k => l.length - k) 0 ⟨slots_intro _ (by kernel_rfl), hs9, Nat.zero_le _⟩ ?_
  rintro k _ w17 ⟨⟨us, rfl⟩, hs18, hk_⟩
  refine W.sr fun K19 hK19 => ?_
  refine zE 1 (hK19 _ _ ?_)
  refine W.seq fun K20 hK20 => ?_
  refine W.cond (decide ((k : Int) < (l.length : Int))) (by kernel_rfl) (fun h21 => ?_) (fun h21 => ?_)
  ·
   have h21p := of_decide_eq_true h21
   have hin := not_any_get (l := l) (n := words.length) (k := k) (by assumption) (by omega)
   refine W.skip ?_
   refine hK20 _ _ ?_
   refine W.seq fun K22 hK22 => ?_
   refine W.block ?_
   refine W.sr fun K23 hK23 => ?_
   have hk24 : k < l.length := by omega
   refine ops_R (runs_index (a := la) (n := l.length) (z := (k : Int)) (size := 2) k rfl hk24 (kWr.addr (hs18.entAt 2 rfl hA) hk24) (by kernel_rfl)) ?_
   refine ops_R (runs_loadAgg (cs := [(.int .i64 ((l.getD k (0, 0)).1)), (.int .u64 ((l.getD k (0, 0)).2))]) (by kernel_rfl) (kWr.all (hs18.entAt 2 rfl hA) hk24 (0, 0) 0 rfl)) ?_
   refine zN [(.int .i64 0), (.int .u64 0)] 126 hs18 fun b27 w25 hs26 => ?_
   refine ops_store (off := 0) (cs := [(.int .i64 0), (.int .u64 0)]) (vs := [(.int .i64 ((l.getD k (0, 0)).1)), (.int .u64 ((l.getD k (0, 0)).2))]) hs26 (by kernel_rfl) (by simp) rfl (fun w28 hs29 => ?_)
   have hs30 : St B w l0 w28 [blk b27 (.cells [(.int .i64 ((l.getD k (0, 0)).1)), (.int .u64 ((l.getD k (0, 0)).2))].toArray 126 (0, 0)), blk b4 (.cells [(.slice wa words.length wc)].toArray 32 (0, 0)), kU64.row wa wc (vflat words (l.take k)), A] := hs29
   refine zD (hK23 _ _ ?_)
   refine W.region ?_
   refine zL ⟨b4, 0, none⟩ (.slice wa words.length wc) (hs30.cellAt 1 rfl rfl) ?_
   refine zR 1 ?_
   refine zL ⟨b27, 0, none⟩ (.int .i64 ((l.getD k (0, 0)).1)) (hs30.cellAt 0 rfl rfl) ?_
   refine zR 1 ?_
   refine zL ⟨b27, 1, none⟩ (.int .u64 ((l.getD k (0, 0)).2)) (hs30.cellAt 0 rfl rfl) ?_
   have hk31 : ((l.getD k (0, 0)).1).toNat < words.length := by omega
   have hk32 : ((l.getD k (0, 0)).1).toNat < (vflat words (l.take k)).length := (by rw [vflat_length]; exact hk31)
   refine ops_R (runs_index (a := wa) (n := words.length) (z := (l.getD k (0, 0)).1) (size := 1) (((l.getD k (0, 0)).1).toNat) (by omega) hk31 (kU64.addr (St.kcells kU64 hs30 2 rfl) hk32) (by kernel_rfl)) ?_
   have hs35 := St.f2 hs30
   refine ops_storeK kU64 (j := 0) (vs := [(.int .u64 ((l.getD k (0, 0)).2))]) 0 ((l.getD k (0, 0)).2) hs35 hk32 (Nat.le_of_ble_eq_true rfl) (by simp) rfl rfl (by kernel_rfl) (fun w33 hs34 => ?_)
   refine zD ?_
   refine normal_block ?_
   refine hK22 _ _ ?_
   refine W.region ?_
   refine ops_val (v := .int .i64 (IntKind.i64.wrap ((k : Int) + 1))) (v' := .int .i64 ((k + 1 : Nat) : Int)) (by kernel_rfl) (congrArg (Value.int .i64) (wrap_i64 (by omega) (by omega))) ?_
   refine zE 1 ?_
   have e_ := vflat_step words (l := l) (k := k) (by omega)
   have hs37 := St.f3 hs34
   have hs38 := St.f1 hs37
   have hs39 := St.f3 hs38
   have hs40 := St.tk3 hs39
   rw [e_] at hs40
   exact ⟨k + 1, ⟨slots_intro _ (by kernel_rfl), hs40, by omega⟩, by first | omega | (dsimp only; omega)⟩
  ·
   have h21p := of_decide_eq_false h21
   refine W.exit (exit_seq (exit_seq (exit_here ?_)))
   refine hK15 _ _ ?_
   refine W.sr fun K41 hK41 => ?_
   refine zE 1 (hK41 _ _ ?_)
   refine W.ret ?_
   have hs42 := St.f2 hs18
   have hs43 := St.f2 hs42
   have hs44 := St.tk2 hs43
   have hno : ¬ (l.any (bad words.length)) = true := by simp only [‹l.any (bad words.length) = false›]; decide
   have e_ : vapply words l = (0, vflat words l) := if_neg hno
   have e2_ : l.take k = l := List.take_of_length_le (by omega)
   have hs_ := hs44
   rw [e2_] at hs_
   refine ret_of (.int .i64 0) (by kernel_rfl) ⟨_, ⟨by rw [e_], rfl⟩, by rw [e_]; exact hs_⟩

theorem flat_spec {p : Value} {img : List Int} {l : List (Int × Int)} (B : Nat) (w : World) (hv : ViewAt p img l w) : Spec Tryd.prog 23 #[p] B w [] (fun v H' => ∃ a' c', v = .slice a' (vflat img l).length c' ∧ H' = [kU64.row a' c' (vflat img l)]) := by
 refine spec_Q Tryd.func23 rfl fun hs => ?_
 have hv0 := hv
 obtain ⟨x, rfl, hok, hb, hi, hm, ho, hcap⟩ := hv
 have hroom := hok.many
 refine W.sr fun K1 hK1 => ?_
 refine zE 1 (hK1 _ _ ?_)
 refine W.seq fun K2 hK2 => ?_
 refine W.sr fun K3 hK3 => ?_
 refine zE 2 (hK3 _ _ ?_)
 refine W.cond_false false (by kernel_rfl) rfl ?_
 refine W.skip ?_
 refine hK2 _ _ ?_
 refine W.sr fun K4 hK4 => ?_
 refine zR 3 ?_
 refine zL ⟨x.b, 0, none⟩ (.slice x.ia img.length x.ic) (cell_of_blk (hs.old hb) rfl) ?_
 refine ops_call0 hs (by kernel_rfl) (clone_spec (hc := (hs.oldCells hi)) (hn := hcap) (hsz := hok.size) B _) ?_
 rintro _ _ w7 ⟨a5, c6, rfl, rfl⟩ hs8
 have hs9 := St.ap1 hs8
 refine zE 1 (hK4 _ _ ?_)
 refine W.sr fun K10 hK10 => ?_
 refine zR 2 ?_
 refine ops_call0 hs9 (by kernel_rfl) (writes_spec (hv := (viewAt_old hs9 hv0)) B _) ?_
 rintro _ _ w13 ⟨a11, c12, rfl, rfl⟩ hs14
 have hs15 := St.ap1 hs14
 have hs16 := St.f1 hs15
 refine zC22 hs16 (apply_spec (wa := a5) (wc := c6) (la := a11) (lc := c12) (words := img) (l := l) (A := kWr.row a11 c12 l) (hA := (fun h => rowA_cells h)) (hsz := (by omega)) B _) fun w17 hs19 => ?_
 refine zD (hK10 _ _ ?_)
 refine W.sr fun K20 hK20 => ?_
 refine zE 2 (hK20 _ _ ?_)
 refine W.ret ?_
 have hs21 := St.tk1 hs19
 have e_ : vapply img l = (0, vflat img l) := if_neg (by rw [inside_any hok.inside]; decide)
 have hs_ := hs21
 rw [e_] at hs_
 refine ret_of (.slice a5 img.length c6) (by kernel_rfl) ⟨_, ⟨a5, c6, by rw [vflat_length], rfl⟩, hs_⟩


end Go.Proofs.YtmmclabkkigiaaaDoor

namespace Go.Proofs.YtmmclabkkigiaaaDoor
open Go Go.RowKit

def shlK (k : IntKind) (x y : Int) : Int := k.wrap (x * 2 ^ (min y.toNat k.bits))
def shrK (k : IntKind) (x y : Int) : Int := x.fdiv (2 ^ (min y.toNat k.bits))

section
variable {P : Program} {ops : Array Oper} {i : Nat} {s : Fs} {w : World}

def shQ (ops : Array Oper) (i : Nat) (s : Fs) : Option (Bool × IntKind × Int × Int) :=
  match opQ ops i s with
  | some o => match o.op with
    | .binOp op _ x y _ => match op, evS s x, evS s y with
      | .shl, .int k a, .int _ b => some (true, k, a, b)
      | .shr, .int k a, .int _ b => some (false, k, a, b)
      | _, _, _ => none
    | _ => none
  | none => none

theorem run_guard_none (op : BinOp) (t : TypeId) (x y : Operand) (a b : Value) (h : op = .shl ∨ op = .shr) (w : World) : (eqGuard op t x y a b).run P w = .ok () w := by
  unfold eqGuard
  rcases h with rfl | rfl <;> rfl

theorem runs_shift {b : Bool} {k : IntKind} {x y : Int} (hq : shQ ops i s = some (b, k, x, y)) (hy : 0 ≤ y) : RunsTo P ops i s w (.int k (match b with | true => shlK k x y | false => shrK k x y)) w := by
  unfold shQ at hq
  split at hq
  · rename_i o ho
    split at hq
    · rename_i op t x' y' yt hop
      refine ⟨o, ho, ?_⟩
      split at hq
      · rename_i k1 a1 k2 b1 hx hy'
        cases hq
        simp only [execOp, hop, hx, hy', Sem.run_bind, run_guard_none _ _ _ _ _ _ (.inl rfl), Result.andThen_ok, binOp, Op.shift, if_neg (Int.not_lt.2 hy), Sem.run_pure]
        rfl
      · rename_i k1 a1 k2 b1 hx hy'
        cases hq
        simp only [execOp, hop, hx, hy', Sem.run_bind, run_guard_none _ _ _ _ _ _ (.inr rfl), Result.andThen_ok, binOp, Op.shift, if_neg (Int.not_lt.2 hy), Sem.run_pure]
        rfl
      · cases hq
    · cases hq
  · cases hq
end
end Go.Proofs.YtmmclabkkigiaaaDoor

namespace Go.Proofs.YtmmclabkkigiaaaDoor
open Go Go.RowKit

def tab8 : List Value := Lib.deBruijn64tab.map fun (z : Nat) => Value.int .u8 (Int.ofNat z)

theorem shrK_58 (z : Int) : shrK .u64 z 58 = z / 288230376151711744 := by
  unfold shrK
  rw [show (min (58 : Int).toNat IntKind.u64.bits) = 58 from rfl]
  exact Int.fdiv_eq_ediv_of_nonneg _ (by decide)

theorem tab8_len : Lib.deBruijn64tab.length = 64 := by decide +kernel

theorem tab8_at {i k : Nat} (hi : i < 64) (h : Lib.deBruijn64tab.getD i 0 = k) : tab8[i]? = some (.int .u8 (k : Int)) := by
  have hl : i < Lib.deBruijn64tab.length := by rw [tab8_len]; exact hi
  unfold tab8
  rw [List.getElem?_map, List.getElem?_eq_getElem hl]
  rw [List.getD_eq_getElem?_getD, List.getElem?_eq_getElem hl] at h
  have ht : Lib.deBruijn64tab[i] = k := h
  rw [ht]; rfl

theorem tz_at {x y : Int} (h0 : 0 ≤ x ∧ x < 18446744073709551616) (hx : ¬ x = 0) (hy : bits .and .u64 x (IntKind.u64.wrap (0 - x)) = y) :
    ∃ k : Nat, k < 64 ∧ shrK .u64 ((y * 285870213051353865) % 18446744073709551616) 58 = (k : Int) ∧ tab8[k]? = some (.int .u8 (Lib.ctz 64 x.toNat : Int)) := by
  rw [Int.zero_sub] at hy
  subst hy
  obtain ⟨n, rfl⟩ := Int.eq_ofNat_of_zero_le h0.1
  have hn : n < 18446744073709551616 := by omega
  have hn0 : n ≠ 0 := by omega
  obtain ⟨hlow, hk⟩ := Lib.lowest_bit 64 n hn0 hn
  obtain ⟨hi, htab⟩ := Lib.deBruijn64_at _ hk
  refine ⟨_, hi, ?_, ?_⟩
  · rw [← IntKind.wrap_u64, shrK_58]; exact tz64_key n _ hn hn0 hlow
  · exact tab8_at hi htab

theorem ctz_le {x : Int} (h0 : 0 ≤ x ∧ x < 18446744073709551616) (hx : ¬ x = 0) : Lib.ctz 64 x.toNat < 64 := (Lib.lowest_bit 64 x.toNat (by omega) (by omega)).2
end Go.Proofs.YtmmclabkkigiaaaDoor

namespace Go.Proofs.YtmmclabkkigiaaaDoor
open Go.ChangeShapes Go.WideShapes Go.ChangeAt Go.RowKit Go.Deep

theorem law_own : ownKnob Tryd.prog.godebug = none := by kernel_rfl
theorem law_laid : laidOutB Tryd.prog = true := by kernel_rfl

theorem law_calls {P : Program} {f : FuncId} {args : Array Value} {w : World} (h : Spec P f args w.heap.size w [] (fun v H' => v = .bool true ∧ H' = [])) :
    Calls P f args w fun e w' => e = .returned (.bool true) ∧ Below w.heap.size w w' := by
  refine (h [] (Nat.le_refl _) (fun _ hb => (List.not_mem_nil hb).elim)).mono ?_
  rintro e w' ⟨v, rfl, H', l', ⟨rfl, rfl⟩, hs, hu⟩
  exact ⟨rfl, hu.os, hu.tape, hu.output, hu.size, fun k hk => hu.block k hk (by simp)⟩

section
variable {H : Type} {enc : TypeId × Value → H} {P : Program}

theorem law_trods (hl : laidOutB P = true) {W W' : World} (hB : Below W.heap.size W W') : ∀ {ts : List TypeId} {vs : List Value} {ds : List (DataW H)} {ps : List MemPlace},
    (ts.all fun t => P.readableRec t && decide (t < P.types.size)) = true → DataW.TrodAll enc P W 0 (fun _ => true) true ts vs ds ps → (∀ x ∈ ps, x.block < W.heap.size) → DataW.TrodAll enc P W' 0 (fun b => decide (b < W.heap.size)) true ts vs ds ps
  | [], [], [], _, _, h, _ => h
  | t :: ts, v :: vs, d :: ds, ps, hp, h, hlt => by
    obtain ⟨p, q, h1, h2, rfl⟩ := h
    simp only [List.all_cons, Bool.and_eq_true, decide_eq_true_eq] at hp
    exact ⟨p, q, Below.trod hl hp.1.1 hp.1.2 h1 hB (fun x hx => hlt x (List.mem_append_left _ hx)), law_trods hl hB hp.2 h2 (fun x hx => hlt x (List.mem_append_right _ hx)), rfl⟩

theorem law_post {s : ChangeSpec} {f : Func} {tb : TypeId} {W W' : World} {args : Array Value} {ds gs : List (DataW H)} {before : List MemPlace} (hl : laidOutB P = true)
    (hp : (f.params.toList.all fun t => P.readableRec t && decide (t < P.types.size)) = true) (hv : s.vars = []) (hr : f.resultTypes = #[tb]) (hb : P.underlying tb = some .bool)
    (hW : DataW.Whole enc P f.params.toList s.vars false W args.toList ds gs before) (hB : Below W.heap.size W W') (hfn : (s.fn H ds).results = [.lit (.bool true)] ∧ (s.fn H ds).args = ds ∧ (s.fn H ds).vars = []) :
    ∃ v, (Ending.returned (.bool true)) = .returned v ∧ s.post enc P f false true false false W args v W' := by
  have hW' := hW
  obtain ⟨p, q, hA, hV, rfl, _, _⟩ := hW'
  rw [hv] at hV
  obtain ⟨rfl, rfl⟩ := trodVars_none hV
  have hlt : ∀ x ∈ p ++ [], x.block < W.heap.size := fun x hx => hW.lt x hx
  have e : ds ++ [] = ds := List.append_nil ds
  refine ⟨_, rfl, ds, [], p ++ [], [], p, [], hW, ?_, ?_, ?_, hB.frame _, fun h => by cases h⟩
  · rw [e, hfn.1, hr]; exact trodAll_mk1 (shut_bool hb true)
  · rw [e, hfn.2.1]; exact law_trods hl hB hp hA (fun x hx => hlt x (by simpa using hx))
  · rw [e, hfn.2.2, hv]; exact rfl
end

section
variable {α : Type} (K : Kind α) {H : Type} {enc : TypeId × Value → H} {P : Program} {w : World} {base : Nat} {sp : Nat → Bool}

theorem list_of {Q : Nat → α → Prop} : ∀ n : Nat, (∀ i, i < n → ∃ x, Q i x) → ∃ l : List α, l.length = n ∧ ∀ (i : Nat) (x : α), l[i]? = some x → Q i x
  | 0, _ => ⟨[], rfl, fun i x h => by simp at h⟩
  | n + 1, h => by
    obtain ⟨l, hl, hq⟩ := list_of n (fun i hi => h i (by omega))
    obtain ⟨x, hx⟩ := h n (by omega)
    refine ⟨l ++ [x], by simp [hl], fun i y hy => ?_⟩
    by_cases hi : i < n
    · rw [List.getElem?_append_left (by omega)] at hy; exact hq i y hy
    · rw [List.getElem?_append_right (by omega)] at hy
      have h0 : i - l.length = 0 := by
        have := (List.getElem?_eq_some_iff.1 hy).1
        simp at this; omega
      rw [h0] at hy
      have e : i = n := by
        have := (List.getElem?_eq_some_iff.1 hy).1
        omega
      simp only [List.getElem?_cons_zero, Option.some.injEq] at hy
      subst hy e; exact hx

theorem Kind.cells_at {l : List α} {j : Nat} {c : Value} (h : (K.cells l)[j]? = some c) : ∃ (i k : Nat) (x : α), j = i * K.size + k ∧ l[i]? = some x ∧ (K.elem x)[k]? = some c := by
  have hlt := (List.getElem?_eq_some_iff.1 h).1
  rw [K.length] at hlt
  have hi : j / K.size < l.length := Nat.div_lt_of_lt_mul (by rw [Nat.mul_comm]; exact hlt)
  have hm : j % K.size < K.size := Nat.mod_lt _ K.pos
  have e : j = j / K.size * K.size + j % K.size := by rw [Nat.mul_comm]; exact (Nat.div_add_mod j K.size).symm
  rw [e, K.get (l[j / K.size]) hi hm] at h
  refine ⟨_, _, l[j / K.size], e, List.getElem?_eq_getElem hi, ?_⟩
  simpa [List.getD, List.getElem?_eq_getElem hi] using h

theorem open_kind {t : TypeId} {v : Value} {d : DataW H} {ps : List MemPlace} (good : α → Prop) (ht : P.underlying t = some (.slice K.e)) (hC : P.cellsOf K.e = K.size)
    (hread : ∀ (n : Nat) (cs : List Value) (y : DataW H × List MemPlace), cs.length = K.size → DataW.trod enc P w base sp true n K.e cs = some y → ∃ x, cs = K.elem x ∧ good x)
    {r : Reach} {b0 : Nat} (hval : Value.okWide P w r b0 t v) (h : DataW.Trod enc P w base sp true t v d ps) :
    ∃ (a : Option Addr) (cap : Nat) (l : List α), v = .slice a l.length cap ∧ (a = none → cap = 0) ∧ l.length ≤ maxLen ∧ CellsAt a (K.cells l) w ∧ ∀ x ∈ l, good x := by
  obtain ⟨fuel, h⟩ := h
  have hcells : v.cells.toList = [v] := by
    obtain ⟨a, n, c, rfl⟩ := okWide_slice ht hval
    rfl
  rw [hcells] at h
  rcases open_slice ht h with ⟨h0, _⟩ | ⟨a, len, cap, m, n, D, Pl, hcs, _, hl, hm, hmm, _, hi⟩
  · simp only [List.cons.injEq, and_true] at h0
    exact ⟨none, 0, [], h0, fun _ => rfl, Nat.zero_le _, rfl, by simp⟩
  · simp only [List.cons.injEq, and_true] at hcs
    have hlm : len ≤ m := by rw [hmm]; split <;> omega
    have each : ∀ i, i < len → ∃ x, good x ∧ ∀ (j : Nat) (c : Value), (K.elem x)[j]? = some c → w.cell? (a.add (i * K.size + j)) = some c := by
      intro i hil
      obtain ⟨cs', hc, ht'⟩ := hi i (by omega)
      rw [hC] at hc
      obtain ⟨_, hcl, hat⟩ := World.cells?_some hc
      obtain ⟨x, rfl, hg⟩ := hread n cs' _ hcl (by rw [← hC] at *; exact ht')
      refine ⟨x, hg, fun j c hj => ?_⟩
      have hjl : j < K.size := by rw [← K.elen x]; exact (List.getElem?_eq_some_iff.1 hj).1
      rw [← Go.Deep.add_add, hat j hjl, hj]
    obtain ⟨l, hlen, hl2⟩ := list_of len each
    refine ⟨some a, cap, l, by rw [hlen]; exact hcs, by simp, by omega, ?_, ?_⟩
    · intro j c hj
      obtain ⟨i, k, x, rfl, hk, hx⟩ := K.cells_at hj
      exact (hl2 i x hk).2 k c hx
    · intro x hx
      obtain ⟨i, hi, e⟩ := List.mem_iff_getElem.1 hx
      exact (hl2 i x (by rw [List.getElem?_eq_getElem hi, e])).1
end
end Go.Proofs.YtmmclabkkigiaaaDoor

namespace Go.Proofs.YtmmclabkkigiaaaDoor
open Go.ChangeShapes Go.WideShapes Go.ChangeAt Go.RowKit Go.Deep

theorem laid_tab {W : World} (h : laidMetH Tryd.prog Rows.blocksNilRow.laid W) : CellsAt (some ⟨0, 0, none⟩) tab8 W := by
  rw [MakeChecks.laidMetH_plain _ _ _ (by kernel_rfl)] at h
  have hg : Tryd.prog.globalNamed "math/bits.deBruijn64tab" = some 0 := by kernel_rfl
  have ht : Lib.TabIs Tryd.prog W "math/bits.deBruijn64tab" .u8 (Lib.deBruijn64tab.map Int.ofNat) :=
    Lib.tabIs_of_head (rest := []) hg (by kernel_rfl) Tryd.underlying153 Tryd.underlying5 (by kernel_rfl) (by kernel_rfl) h
  intro j v hj
  unfold tab8 at hj
  rw [List.getElem?_map] at hj
  obtain ⟨z, hz, rfl⟩ := Option.map_eq_some_iff.1 hj
  have hlt : j < (Lib.deBruijn64tab.map Int.ofNat).length := by rw [List.length_map]; exact (List.getElem?_eq_some_iff.1 hz).1
  have hc := ht.cell hg j hlt
  rw [List.getD_eq_getElem?_getD, List.getElem?_map, hz] at hc
  have e : Addr.add ⟨0, 0, none⟩ j = ⟨0, j, none⟩ := by unfold Addr.add; split <;> simp_all
  rw [e]; simpa using hc

theorem door_met (os : Os) (args : Array Value) : laidMetH Tryd.prog Rows.blocksNilRow.laid ((World.doorLaid Tryd.prog 400 os).forCall (fun _ _ => 0) ⟨#[], args, []⟩).memory :=
  laidMetH_of_parts3 (fuel := 8) (laidMet_of_run' 8 (by kernel_rfl) (by kernel_rfl)) (by kernel_rfl) (by kernel_rfl)
end Go.Proofs.YtmmclabkkigiaaaDoor

set_option linter.unusedVariables false
set_option maxRecDepth 20000
namespace Go.Proofs.YtmmclabkkigiaaaDoor
open Go Go.RowKit
set_option linter.unusedSimpArgs false
set_option linter.unusedVariables false

def mhas_M (many : Int) (i_ : Int) : Option (Bool) :=
 if i_ ≥ 0 then (some (decide (i_ < many))) else (some false)

theorem mhas_walk {img : List Int} {l : List (Int × Int)} {at_ : Int} {many : Int} {i_ : Int} {mb vb : Nat} {r : Bool} (B : Nat) (w : World) (hmb : w.heap[mb]? = some (.cells [(.pointer (some ⟨vb, 0, none⟩)), (.int .i64 at_), (.int .i64 many)].toArray 136 (0, 0))) (hv : ViewAt (ptr vb) img l w) (hm : mhas_M many i_ = some r) : Spec Tryd.prog 87 #[(.pointer (some ⟨mb, 0, none⟩)), (.int .i64 i_)] B w [] (fun v H' => v = .bool r ∧ H' = []) := by
 refine spec_Q Tryd.func87 rfl fun hs => ?_
 unfold mhas_M at hm
 refine W.sr fun K1 hK1 => ?_
 refine zE 1 (hK1 _ _ ?_)
 refine W.sr fun K2 hK2 => ?_
 refine zR 7 ?_
 rcases Bool.eq_false_or_eq_true (decide (i_ ≥ 0)) with h3 | h3
 ·
  obtain ⟨h3p, hm⟩ := iY hm h3
  refine zS 11 h3 ?_
  refine zS 9 h3 ?_
  refine zS 10 h3 ?_
  refine zR 4 ?_
  refine zL ⟨mb, 2, none⟩ (.int .i64 many) (cell_of_blk (hs.old hmb) rfl) ?_
  refine zE 3 (hK2 _ _ ?_)
  refine W.ret ?_
  obtain rfl := some_inj hm
  refine ret_of (.bool (decide (i_ < many))) (by kernel_rfl) ⟨_, ⟨rfl, rfl⟩, hs⟩
 ·
  obtain ⟨h3p, hm⟩ := iN hm h3
  refine zS 11 h3 ?_
  refine zS 9 h3 ?_
  refine zS 10 h3 ?_
  refine zE 8 (hK2 _ _ ?_)
  refine W.ret ?_
  obtain rfl := some_inj hm
  refine ret_of (.bool false) (by kernel_rfl) ⟨_, ⟨rfl, rfl⟩, hs⟩

def mword_M (at_ : Int) (i_ : Int) : Option (Int × Int) :=
 need (-9223372036854775808 ≤ (i_.tdiv 64) ∧ (i_.tdiv 64) ≤ 9223372036854775807) <|
need (-9223372036854775808 ≤ (at_ + (i_.tdiv 64)) ∧ (at_ + (i_.tdiv 64)) ≤ 9223372036854775807) <|
need (0 ≤ i_.tmod 64) <|
some ((at_ + (i_.tdiv 64)), (shlK .u64 1 (i_.tmod 64)))

theorem mword_walk {img : List Int} {l : List (Int × Int)} {at_ : Int} {many : Int} {i_ : Int} {mb vb : Nat} {r : Int × Int} (B : Nat) (w : World) (hmb : w.heap[mb]? = some (.cells [(.pointer (some ⟨vb, 0, none⟩)), (.int .i64 at_), (.int .i64 many)].toArray 136 (0, 0))) (hv : ViewAt (ptr vb) img l w) (hm : mword_M at_ i_ = some r) : Spec Tryd.prog 88 #[(.pointer (some ⟨mb, 0, none⟩)), (.int .i64 i_)] B w [] (fun v H' => v = .tuple #[.int .i64 r.1, .int .u64 r.2] ∧ H' = []) := by
 refine spec_Q Tryd.func88 rfl fun hs => ?_
 unfold mword_M at hm
 refine W.sr fun K1 hK1 => ?_
 refine zE 2 (hK1 _ _ ?_)
 refine W.seq fun K2 hK2 => ?_
 have hs3 := hs.drew
 refine W.regionD [(0, 0), (1, 1), (2, 2), (4, 4), (0, 0), (16, 16), (40, 40), (0, 0), (128, 128), (256, 256), (127, 64), (2047, 512)] (fun w_ => St B w [] w_ []) (by kernel_rfl) hs3 ?_
 refine any_val (v := (.pointer (some ⟨mb, 0, none⟩))) (v' := (.pointer (some ⟨mb, 0, none⟩))) 0 (by kernel_rfl) (fun _ => by kernel_rfl) rfl hs3 ?_
 refine any_val (v := (.pointer (some ⟨mb, 0, none⟩))) (v' := (.pointer (some ⟨mb, 0, none⟩))) 1 (by kernel_rfl) (fun _ => by kernel_rfl) rfl hs3 ?_
 refine any_val (v := (.pointer (some ⟨mb, 1, none⟩))) (v' := (.pointer (some ⟨mb, 1, none⟩))) 2 (by kernel_rfl) (fun _ => by kernel_rfl) rfl hs3 ?_
 refine any_R 3 (by kernel_rfl) (fun _ hS_ => runs_load (ad := ⟨mb, 1, none⟩) (v := (.int .i64 at_)) (by kernel_rfl) (cell_of_blk (hS_.old hmb) rfl)) hs3 ?_
 refine any_val (v := (.int .i64 i_)) (v' := (.int .i64 i_)) 4 (by kernel_rfl) (fun _ => by kernel_rfl) rfl hs3 ?_
 obtain ⟨h4, hm⟩ := need_some hm
 refine any_R (v := .int .i64 (i_.tdiv 64)) 5 (by kernel_rfl) (fun _ hS_ => runs_quo (k := .i64) (a := i_) (b := 64) (by kernel_rfl) (by decide) (wrap_i64 h4.1 h4.2)) hs3 ?_
 obtain ⟨h5, hm⟩ := need_some hm
 refine any_val (v := .int .i64 (IntKind.i64.wrap (at_ + (i_.tdiv 64)))) (v' := .int .i64 (at_ + (i_.tdiv 64))) 6 (by kernel_rfl) (fun _ => by kernel_rfl) (congrArg (Value.int .i64) (wrap_i64 h5.1 h5.2)) hs3 ?_
 refine any_val (v := (.int .i64 i_)) (v' := (.int .i64 i_)) 7 (by kernel_rfl) (fun _ => by kernel_rfl) rfl hs3 ?_
 refine any_val (v := (.int .i64 (i_.tmod 64))) (v' := (.int .i64 (i_.tmod 64))) 8 (by kernel_rfl) (fun _ => by kernel_rfl) rfl hs3 ?_
 obtain ⟨h6, hm⟩ := need_some hm
 refine any_R (v := .int .u64 (shlK .u64 1 (i_.tmod 64))) 9 (by kernel_rfl) (fun _ hS_ => runs_shift (b := true) (k := .u64) (x := 1) (y := i_.tmod 64) (by kernel_rfl) h6) hs3 ?_
 refine any_val (v := (.int .i64 (at_ + (i_.tdiv 64)))) (v' := (.int .i64 (at_ + (i_.tdiv 64)))) 10 (by kernel_rfl) (fun _ => by kernel_rfl) rfl hs3 ?_
 refine any_val (v := (.int .u64 (shlK .u64 1 (i_.tmod 64)))) (v' := (.int .u64 (shlK .u64 1 (i_.tmod 64)))) 11 (by kernel_rfl) (fun _ => by kernel_rfl) rfl hs3 ?_
 refine any_done (by kernel_rfl) ?_
 refine hK2 _ _ ?_
 refine W.ret ?_
 obtain rfl := some_inj hm
 refine ret_of (.tuple #[(.int .i64 (at_ + (i_.tdiv 64))), (.int .u64 (shlK .u64 1 (i_.tmod 64)))]) (by kernel_rfl) ⟨_, ⟨rfl, rfl⟩, hs3⟩

end Go.Proofs.YtmmclabkkigiaaaDoor

namespace Go.Proofs.YtmmclabkkigiaaaDoor
open Go Go.RowKit

theorem mhas_ok (many i_ : Int) : mhas_M many i_ = some (decide (0 ≤ i_ ∧ i_ < many)) := by
  unfold mhas_M
  by_cases h : i_ ≥ 0
  · rw [if_pos h]
    congr 1
    exact decide_eq_decide.2 (by omega)
  · rw [if_neg h]
    congr 1
    exact (decide_eq_false (by omega)).symm
theorem shl_one {j : Int} (h : 0 ≤ j ∧ j < 64) : shlK .u64 1 j = 2 ^ j.toNat := by
  have e : min j.toNat IntKind.u64.bits = j.toNat := by
    have : IntKind.u64.bits = 64 := rfl
    omega
  unfold shlK
  rw [e, Int.one_mul]
  have h1 : (2 : Nat) ^ j.toNat < 2 ^ 64 := Nat.pow_lt_pow_right (by omega) (by omega)
  have h2 : ((2 ^ j.toNat : Nat) : Int) = 2 ^ j.toNat := by simp
  rw [← h2]
  exact wrap_u64 (Int.natCast_nonneg _) (Int.ofNat_lt.2 h1)
theorem mword_ok {at_ i_ : Int} (h : 0 ≤ i_ ∧ i_ ≤ 1000000000000 ∧ 0 ≤ at_ ∧ at_ ≤ 1000000000000) : mword_M at_ i_ = some (at_ + i_ / 64, 2 ^ (i_ % 64).toNat) := by
  unfold mword_M
  have e1 : i_.tdiv 64 = i_ / 64 := Int.tdiv_eq_ediv_of_nonneg h.1
  have e2 : i_.tmod 64 = i_ % 64 := Int.tmod_eq_emod_of_nonneg h.1
  rw [e1, e2]
  refine need_of (by omega) (need_of (by omega) (need_of (by omega) ?_))
  rw [shl_one (by omega)]

def mwordAt (img : List Int) (l : List (Int × Int)) (at_ many : Int) (k : Nat) : Int :=
  if many - 64 * (k : Int) < 64 then vget img l (at_ + (k : Int)) % 2 ^ (many - 64 * (k : Int)).toNat else vget img l (at_ + (k : Int))
def nWords (many : Int) : Nat := ((many + 63) / 64).toNat
theorem and_mask (v : Int) {j : Nat} (hj : j < 64) : bits .and .u64 v (2 ^ j - 1) = v % 2 ^ j := by
  have h1 : (2 : Nat) ^ j < 2 ^ 64 := Nat.pow_lt_pow_right (by omega) hj
  have h0 : 0 < (2 : Nat) ^ j := Nat.pow_pos (by omega)
  have e1 : (2 : Int) ^ j - 1 = ((2 ^ j - 1 : Nat) : Int) := by
    rw [Int.ofNat_sub (by omega)]
    simp
  have hb : (BitVec.ofInt 64 (2 ^ j - 1)).toNat = 2 ^ j - 1 := by
    rw [e1, BitVec.ofInt_natCast, BitVec.toNat_ofNat]
    exact Nat.mod_eq_of_lt (by omega)
  have ha : (BitVec.ofInt 64 v).toNat = (v % 18446744073709551616).toNat := by
    rw [BitVec.toNat_ofInt]
    rfl
  show IntKind.u64.wrap ((BitVec.ofInt 64 v &&& BitVec.ofInt 64 (2 ^ j - 1)).toNat : Int) = _
  rw [BitVec.toNat_and, hb, ha, Nat.and_two_pow_sub_one_eq_mod]
  have h2 : (v % 18446744073709551616).toNat % 2 ^ j < 2 ^ j := Nat.mod_lt _ h0
  rw [wrap_u64 (Int.natCast_nonneg _) (by have := Int.ofNat_lt.2 (Nat.lt_trans h2 h1); simpa using this)]
  have h3 : ((v % 18446744073709551616).toNat : Int) = v % 18446744073709551616 := Int.toNat_of_nonneg (Int.emod_nonneg _ (by omega))
  rw [Int.natCast_emod, h3]
  have h4 : ((2 ^ j : Nat) : Int) ∣ 18446744073709551616 := by
    have : (2 : Nat) ^ j ∣ 2 ^ 64 := Nat.pow_dvd_pow 2 (by omega)
    exact Int.ofNat_dvd.2 this
  rw [Int.emod_emod_of_dvd _ h4]
  simp
theorem mword_whole {img : List Int} {l : List (Int × Int)} {at_ many : Int} {k : Nat} (h : ¬ many - 64 * (k : Int) < 64) : vget img l (at_ + 64 * (k : Int) / 64) = mwordAt img l at_ many k := by
  unfold mwordAt
  rw [if_neg h]
  congr 2
  omega
theorem mword_part {img : List Int} {l : List (Int × Int)} {at_ many : Int} {k : Nat} (h : many - 64 * (k : Int) < 64) (h0 : 0 < many - 64 * (k : Int)) :
    bits .and .u64 (vget img l (at_ + 64 * (k : Int) / 64)) ((shlK .u64 1 (many - 64 * (k : Int)) - 1) % 18446744073709551616) = mwordAt img l at_ many k := by
  unfold mwordAt
  rw [if_pos h, shl_one (by omega)]
  have h1 : (2 : Nat) ^ (many - 64 * (k : Int)).toNat < 2 ^ 64 := Nat.pow_lt_pow_right (by omega) (by omega)
  have h2 : ((2 ^ (many - 64 * (k : Int)).toNat : Nat) : Int) = 2 ^ (many - 64 * (k : Int)).toNat := by simp
  have h3 := Int.ofNat_lt.2 h1
  rw [h2] at h3
  have h5 : (0 : Int) < 2 ^ (many - 64 * (k : Int)).toNat := by rw [← h2]; exact Int.ofNat_lt.2 (Nat.pow_pos (by omega))
  rw [Int.emod_eq_of_lt (by omega) (by simp at h3; omega), and_mask _ (by omega)]
  congr 2
  congr 1
  omega

section
variable {mb vb : Nat} {img : List Int} {l : List (Int × Int)} {at_ many i_ : Int}
theorem mhas_spec (B : Nat) (w : World) (hmb : w.heap[mb]? = some (.cells [ptr vb, .int .i64 at_, .int .i64 many].toArray 136 (0, 0))) (hv : ViewAt (ptr vb) img l w) :
    Spec Tryd.prog 87 #[ptr mb, .int .i64 i_] B w [] (fun v H' => v = .bool (decide (0 ≤ i_ ∧ i_ < many)) ∧ H' = []) := mhas_walk B w hmb hv (mhas_ok many i_)
theorem mword_spec (B : Nat) (w : World) (hq : 0 ≤ i_ ∧ i_ ≤ 1000000000000 ∧ 0 ≤ at_ ∧ at_ ≤ 1000000000000) (hmb : w.heap[mb]? = some (.cells [ptr vb, .int .i64 at_, .int .i64 many].toArray 136 (0, 0))) (hv : ViewAt (ptr vb) img l w) :
    Spec Tryd.prog 88 #[ptr mb, .int .i64 i_] B w [] (fun v H' => v = .tuple #[.int .i64 (at_ + i_ / 64), .int .u64 (2 ^ (i_ % 64).toNat)] ∧ H' = []) := mword_walk B w hmb hv (mword_ok hq)
end
end Go.Proofs.YtmmclabkkigiaaaDoor

namespace Go.Proofs.YtmmclabkkigiaaaDoor
open Go Go.RowKit
set_option linter.unusedVariables false

theorem nat_and_split {a b c d : Nat} (ha : a < 256) (hc : c < 256) : (256 * b + a) &&& (256 * d + c) = 256 * (b &&& d) + (a &&& c) := by
  have hac : a &&& c < 2 ^ 8 := Nat.and_lt_two_pow _ hc
  refine Nat.eq_of_testBit_eq fun i => ?_
  have h1 := Nat.testBit_two_pow_mul_add b (i := 8) ha i
  have h2 := Nat.testBit_two_pow_mul_add d (i := 8) hc i
  have h3 := Nat.testBit_two_pow_mul_add (b &&& d) (i := 8) hac i
  rw [show (2 : Nat) ^ 8 = 256 from rfl] at h1 h2 h3
  rw [Nat.testBit_and, h1, h2, h3]
  by_cases h : i < 8
  · simp only [if_pos h, Nat.testBit_and]
  · simp only [if_neg h, Nat.testBit_and]

def st1 (m x : Nat) : Nat := ((x / 2) &&& m) + (x &&& m)
def st2 (m x : Nat) : Nat := ((x / 4) &&& m) + (x &&& m)
def st3 (m x : Nat) : Nat := (x / 16 + x) &&& m

theorem st1_dec : ∀ a : Fin 256, ∀ b : Fin 2, (a.val / 2 + 128 * b.val) &&& 85 = (a.val / 2) &&& 85 := by decide +kernel
theorem st2_dec : ∀ a : Fin 256, ∀ b : Fin 4, (a.val / 4 + 64 * b.val) &&& 51 = (a.val / 4) &&& 51 := by decide +kernel
theorem st3_dec : ∀ a : Fin 100, ∀ b : Fin 8, (a.val / 16 + 16 * b.val + a.val) &&& 15 = (a.val / 16 + a.val) &&& 15 := by decide +kernel

theorem st1_split {a b m : Nat} (ha : a < 256) : st1 (256 * m + 85) (256 * b + a) = 256 * st1 m b + st1 85 a := by
  have e : (256 * b + a) / 2 = 256 * (b / 2) + (a / 2 + 128 * (b % 2)) := by omega
  unfold st1
  have d := st1_dec ⟨a, ha⟩ ⟨b % 2, by omega⟩
  dsimp only at d
  rw [e, nat_and_split (by omega) (by decide), nat_and_split ha (by decide), d]
  omega
theorem st2_split {a b m : Nat} (ha : a < 256) : st2 (256 * m + 51) (256 * b + a) = 256 * st2 m b + st2 51 a := by
  have e : (256 * b + a) / 4 = 256 * (b / 4) + (a / 4 + 64 * (b % 4)) := by omega
  unfold st2
  have d := st2_dec ⟨a, ha⟩ ⟨b % 4, by omega⟩
  dsimp only at d
  rw [e, nat_and_split (by omega) (by decide), nat_and_split ha (by decide), d]
  omega
theorem st3_split {a b m : Nat} (ha : a < 100) (hb : b % 16 < 8) : st3 (256 * m + 15) (256 * b + a) = 256 * st3 m b + st3 15 a := by
  have e : (256 * b + a) / 16 + (256 * b + a) = 256 * (b / 16 + b) + (a / 16 + 16 * (b % 16) + a) := by omega
  unfold st3
  rw [e, nat_and_split (by omega) (by decide), st3_dec ⟨a, ha⟩ ⟨b % 16, by omega⟩]

def pop8 (a : Nat) : Nat := st3 15 (st2 51 (st1 85 a))
theorem st12_lt : ∀ a : Fin 256, st1 85 a.val < 256 ∧ st2 51 (st1 85 a.val) < 100 ∧ st2 51 (st1 85 a.val) % 16 < 8 ∧ pop8 a.val ≤ 8 := by decide +kernel

def popN : Nat → Nat → Nat
  | 0, _ => 0
  | n + 1, x => x % 2 + popN n (x / 2)
theorem pop8_eq : ∀ a : Fin 256, popN 8 a.val = pop8 a.val := by decide +kernel
theorem popN_add : ∀ (n m x : Nat), popN (n + m) x = popN n x + popN m (x / 2 ^ n)
  | 0, m, x => by simp [popN]
  | n + 1, m, x => by
    rw [show n + 1 + m = (n + m) + 1 by omega, popN, popN, popN_add n m (x / 2), Nat.div_div_eq_div_mul, Nat.pow_succ, Nat.mul_comm 2]
    omega
theorem popN_mod : ∀ (n k x : Nat), n ≤ k → popN n (x % 2 ^ k) = popN n x
  | 0, _, _, _ => rfl
  | n + 1, k, x, h => by
    obtain ⟨j, rfl⟩ : ∃ j, k = j + 1 := ⟨k - 1, by omega⟩
    have e1 : x % 2 ^ (j + 1) % 2 = x % 2 := Nat.mod_mod_of_dvd x ⟨2 ^ j, by rw [Nat.pow_succ, Nat.mul_comm]⟩
    have e2 : x % 2 ^ (j + 1) / 2 = (x / 2) % 2 ^ j := by
      rw [Nat.pow_succ, Nat.mul_comm, Nat.mod_mul_right_div_self]
    rw [popN, popN, e1, e2, popN_mod n j (x / 2) (by omega)]

theorem pop_bytes {x : Nat} (b0 b1 b2 b3 b4 b5 b6 b7 : Nat) (h : x = 256 * (256 * (256 * (256 * (256 * (256 * (256 * b7 + b6) + b5) + b4) + b3) + b2) + b1) + b0)
    (h0 : b0 < 256) (h1 : b1 < 256) (h2 : b2 < 256) (h3 : b3 < 256) (h4 : b4 < 256) (h5 : b5 < 256) (h6 : b6 < 256) (h7 : b7 < 256) :
    popN 64 x = pop8 b0 + pop8 b1 + pop8 b2 + pop8 b3 + pop8 b4 + pop8 b5 + pop8 b6 + pop8 b7 := by
  have step : ∀ (n a b : Nat), a < 256 → popN (8 + n) (256 * b + a) = pop8 a + popN n b := by
    intro n a b ha
    rw [popN_add]
    have e1 : (256 * b + a) / 2 ^ 8 = b := by omega
    have e2 : popN 8 (256 * b + a) = popN 8 a := by
      rw [← popN_mod 8 8 (256 * b + a) (by omega)]
      congr 1
      omega
    rw [e1, e2, (pop8_eq ⟨a, ha⟩ : popN 8 a = pop8 a)]
  subst h
  have e7 : popN 8 b7 = pop8 b7 := pop8_eq ⟨b7, h7⟩
  rw [show (64 : Nat) = 8 + (8 + (8 + (8 + (8 + (8 + (8 + 8)))))) from rfl, step _ _ _ h0, step _ _ _ h1, step _ _ _ h2, step _ _ _ h3, step _ _ _ h4, step _ _ _ h5, step _ _ _ h6, e7]
  omega

theorem div_of {u m q r : Nat} (h : u = m * q + r) (hr : r < m) : u / m = q := by
  rw [h, Nat.add_comm, Nat.add_mul_div_left _ _ (by omega), Nat.div_eq_of_lt hr, Nat.zero_add]
theorem swar_u {c0 c1 c2 c3 c4 c5 c6 c7 y a1 a2 a3 a4 a5 a6 : Nat} (e0 : y = 256 * a1 + c0) (e1 : a1 = 256 * a2 + c1) (e2 : a2 = 256 * a3 + c2) (e3 : a3 = 256 * a4 + c3) (e4 : a4 = 256 * a5 + c4) (e5 : a5 = 256 * a6 + c5) (e6 : a6 = 256 * c7 + c6) :
    y + a1 + (a2 + a3) = 4294967296 * (a4 + a5 + a6 + c7) + (16777216 * (c3 + c4 + c5 + c6) + 65536 * (c2 + c3 + c4 + c5) + 256 * (c1 + c2 + c3 + c4) + (c0 + c1 + c2 + c3)) := by omega
theorem swar_m {c0 c1 c2 c3 c4 c5 c6 c7 y a1 a2 a3 a4 a5 a6 : Nat} (e0 : y = 256 * a1 + c0) (e1 : a1 = 256 * a2 + c1) (e2 : a2 = 256 * a3 + c2) (e3 : a3 = 256 * a4 + c3) (e4 : a4 = 256 * a5 + c4) (e5 : a5 = 256 * a6 + c5) (e6 : a6 = 256 * c7 + c6) :
    y + a1 + (a2 + a3) + (a4 + a5 + a6 + c7) = 128 * (2 * (a1 + a2 + a3 + a4 + a5 + a6 + c7)) + (c0 + c1 + c2 + c3 + c4 + c5 + c6 + c7) := by omega
theorem swar_sum {c0 c1 c2 c3 c4 c5 c6 c7 : Nat} (t0 : c0 ≤ 8) (t1 : c1 ≤ 8) (t2 : c2 ≤ 8) (t3 : c3 ≤ 8) (t4 : c4 ≤ 8) (t5 : c5 ≤ 8) (t6 : c6 ≤ 8) (t7 : c7 ≤ 8) {y : Nat} (hy : y = 256 * (256 * (256 * (256 * (256 * (256 * (256 * c7 + c6) + c5) + c4) + c3) + c2) + c1) + c0) :
    (((y + y / 256) + (y + y / 256) / 65536) + ((y + y / 256) + (y + y / 256) / 65536) / 4294967296) % 128 = c0 + c1 + c2 + c3 + c4 + c5 + c6 + c7 ∧ y < 651061555542690058 := by
  obtain ⟨a6, e6⟩ : ∃ a, a = 256 * c7 + c6 := ⟨_, rfl⟩
  rw [← e6] at hy
  obtain ⟨a5, e5⟩ : ∃ a, a = 256 * a6 + c5 := ⟨_, rfl⟩
  rw [← e5] at hy
  obtain ⟨a4, e4⟩ : ∃ a, a = 256 * a5 + c4 := ⟨_, rfl⟩
  rw [← e4] at hy
  obtain ⟨a3, e3⟩ : ∃ a, a = 256 * a4 + c3 := ⟨_, rfl⟩
  rw [← e3] at hy
  obtain ⟨a2, e2⟩ : ∃ a, a = 256 * a3 + c2 := ⟨_, rfl⟩
  rw [← e2] at hy
  obtain ⟨a1, e1⟩ : ∃ a, a = 256 * a2 + c1 := ⟨_, rfl⟩
  rw [← e1] at hy
  have b6 : a6 ≤ 2056 := by omega
  have b5 : a5 ≤ 526344 := by clear e1 e2 e3 e4 hy; omega
  have b4 : a4 ≤ 134744072 := by clear e1 e2 e3 e5 e6 hy; omega
  have b3 : a3 ≤ 34494482440 := by clear e1 e2 e4 e5 e6 hy; omega
  have b2 : a2 ≤ 8830587504648 := by clear e1 e3 e4 e5 e6 hy; omega
  have b1 : a1 ≤ 2260630401189896 := by clear e2 e3 e4 e5 e6 hy; omega
  have b0 : y < 651061555542690058 := by clear e1 e2 e3 e4 e5 e6; omega
  have q1 : y / 256 = a1 := div_of hy (by omega)
  have hu := swar_u hy e1 e2 e3 e4 e5 e6
  have hm := swar_m hy e1 e2 e3 e4 e5 e6
  have q2 : (y + a1) / 65536 = a2 + a3 := by
    have h2 : y + a1 = 65536 * (a2 + a3) + (256 * (c1 + c2) + (c0 + c1)) := by clear hu hm t0 t1 t2 t3 t4 t5 t6 t7 b0 b1 b2 b3 b4 b5 b6 q1 e3 e4 e5 e6; omega
    exact div_of h2 (by clear h2 hu hm e1 e2 e3 e4 e5 e6 hy; omega)
  rw [q1, q2, div_of hu (by clear hu hm e1 e2 e3 e4 e5 e6 hy; omega), hm]
  refine ⟨?_, b0⟩
  rw [Nat.mul_add_mod, Nat.mod_eq_of_lt (by clear hu hm e1 e2 e3 e4 e5 e6 hy; omega)]
theorem swar_eq {x : Nat} (hx : x < 18446744073709551616) :
    ∃ y, st3 1085102592571150095 (st2 3689348814741910323 (st1 6148914691236517205 x)) = y ∧
      (((y + y / 256) + (y + y / 256) / 65536) + ((y + y / 256) + (y + y / 256) / 65536) / 4294967296) % 128 = popN 64 x ∧ y < 651061555542690058 := by
  obtain ⟨b0, x1, e0, h0⟩ : ∃ b0 x1, x = 256 * x1 + b0 ∧ b0 < 256 := ⟨x % 256, x / 256, by omega, by omega⟩
  obtain ⟨b1, x2, e1, h1⟩ : ∃ b1 x2, x1 = 256 * x2 + b1 ∧ b1 < 256 := ⟨x1 % 256, x1 / 256, by omega, by omega⟩
  obtain ⟨b2, x3, e2, h2⟩ : ∃ b2 x3, x2 = 256 * x3 + b2 ∧ b2 < 256 := ⟨x2 % 256, x2 / 256, by omega, by omega⟩
  obtain ⟨b3, x4, e3, h3⟩ : ∃ b3 x4, x3 = 256 * x4 + b3 ∧ b3 < 256 := ⟨x3 % 256, x3 / 256, by omega, by omega⟩
  obtain ⟨b4, x5, e4, h4⟩ : ∃ b4 x5, x4 = 256 * x5 + b4 ∧ b4 < 256 := ⟨x4 % 256, x4 / 256, by omega, by omega⟩
  obtain ⟨b5, x6, e5, h5⟩ : ∃ b5 x6, x5 = 256 * x6 + b5 ∧ b5 < 256 := ⟨x5 % 256, x5 / 256, by omega, by omega⟩
  obtain ⟨b6, b7, e6, h6⟩ : ∃ b6 b7, x6 = 256 * b7 + b6 ∧ b6 < 256 := ⟨x6 % 256, x6 / 256, by omega, by omega⟩
  have h7 : b7 < 256 := by omega
  subst e6 e5 e4 e3 e2 e1 e0
  rw [pop_bytes b0 b1 b2 b3 b4 b5 b6 b7 rfl h0 h1 h2 h3 h4 h5 h6 h7]
  obtain ⟨p0, q0, r0, t0⟩ := st12_lt ⟨b0, h0⟩
  obtain ⟨p1, q1, r1, t1⟩ := st12_lt ⟨b1, h1⟩
  obtain ⟨p2, q2, r2, t2⟩ := st12_lt ⟨b2, h2⟩
  obtain ⟨p3, q3, r3, t3⟩ := st12_lt ⟨b3, h3⟩
  obtain ⟨p4, q4, r4, t4⟩ := st12_lt ⟨b4, h4⟩
  obtain ⟨p5, q5, r5, t5⟩ := st12_lt ⟨b5, h5⟩
  obtain ⟨p6, q6, r6, t6⟩ := st12_lt ⟨b6, h6⟩
  obtain ⟨p7, q7, r7, t7⟩ := st12_lt ⟨b7, h7⟩
  dsimp only at p0 q0 r0 t0 p1 q1 r1 t1 p2 q2 r2 t2 p3 q3 r3 t3 p4 q4 r4 t4 p5 q5 r5 t5 p6 q6 r6 t6 p7 q7 r7 t7
  have u1 : st1 6148914691236517205 (256 * (256 * (256 * (256 * (256 * (256 * (256 * b7 + b6) + b5) + b4) + b3) + b2) + b1) + b0) =
      256 * (256 * (256 * (256 * (256 * (256 * (256 * st1 85 b7 + st1 85 b6) + st1 85 b5) + st1 85 b4) + st1 85 b3) + st1 85 b2) + st1 85 b1) + st1 85 b0 := by
    rw [show (6148914691236517205 : Nat) = 256 * (256 * (256 * (256 * (256 * (256 * (256 * 85 + 85) + 85) + 85) + 85) + 85) + 85) + 85 from rfl,
      st1_split h0, st1_split h1, st1_split h2, st1_split h3, st1_split h4, st1_split h5, st1_split h6]
  rw [u1]
  have u2 : ∀ c0 c1 c2 c3 c4 c5 c6 c7 : Nat, c0 < 256 → c1 < 256 → c2 < 256 → c3 < 256 → c4 < 256 → c5 < 256 → c6 < 256 → st2 3689348814741910323 (256 * (256 * (256 * (256 * (256 * (256 * (256 * c7 + c6) + c5) + c4) + c3) + c2) + c1) + c0) =
      256 * (256 * (256 * (256 * (256 * (256 * (256 * st2 51 c7 + st2 51 c6) + st2 51 c5) + st2 51 c4) + st2 51 c3) + st2 51 c2) + st2 51 c1) + st2 51 c0 := by
    intro c0 c1 c2 c3 c4 c5 c6 c7 g0 g1 g2 g3 g4 g5 g6
    rw [show (3689348814741910323 : Nat) = 256 * (256 * (256 * (256 * (256 * (256 * (256 * 51 + 51) + 51) + 51) + 51) + 51) + 51) + 51 from rfl,
      st2_split g0, st2_split g1, st2_split g2, st2_split g3, st2_split g4, st2_split g5, st2_split g6]
  rw [u2 _ _ _ _ _ _ _ _ p0 p1 p2 p3 p4 p5 p6]
  have u3 : ∀ c0 c1 c2 c3 c4 c5 c6 c7 : Nat, c0 < 100 → c1 < 100 → c2 < 100 → c3 < 100 → c4 < 100 → c5 < 100 → c6 < 100 → c1 % 16 < 8 → c2 % 16 < 8 → c3 % 16 < 8 → c4 % 16 < 8 → c5 % 16 < 8 → c6 % 16 < 8 → c7 % 16 < 8 →
      st3 1085102592571150095 (256 * (256 * (256 * (256 * (256 * (256 * (256 * c7 + c6) + c5) + c4) + c3) + c2) + c1) + c0) =
      256 * (256 * (256 * (256 * (256 * (256 * (256 * st3 15 c7 + st3 15 c6) + st3 15 c5) + st3 15 c4) + st3 15 c3) + st3 15 c2) + st3 15 c1) + st3 15 c0 := by
    intro c0 c1 c2 c3 c4 c5 c6 c7 g0 g1 g2 g3 g4 g5 g6 k1 k2 k3 k4 k5 k6 k7
    rw [show (1085102592571150095 : Nat) = 256 * (256 * (256 * (256 * (256 * (256 * (256 * 15 + 15) + 15) + 15) + 15) + 15) + 15) + 15 from rfl,
      st3_split g0 (by omega), st3_split g1 (by omega), st3_split g2 (by omega), st3_split g3 (by omega), st3_split g4 (by omega), st3_split g5 (by omega), st3_split g6 (by omega)]
  rw [u3 _ _ _ _ _ _ _ _ q0 q1 q2 q3 q4 q5 q6 r1 r2 r3 r4 r5 r6 r7]
  refine ⟨_, rfl, ?_⟩
  rw [show st3 15 (st2 51 (st1 85 b0)) = pop8 b0 from rfl, show st3 15 (st2 51 (st1 85 b1)) = pop8 b1 from rfl, show st3 15 (st2 51 (st1 85 b2)) = pop8 b2 from rfl, show st3 15 (st2 51 (st1 85 b3)) = pop8 b3 from rfl, show st3 15 (st2 51 (st1 85 b4)) = pop8 b4 from rfl, show st3 15 (st2 51 (st1 85 b5)) = pop8 b5 from rfl, show st3 15 (st2 51 (st1 85 b6)) = pop8 b6 from rfl, show st3 15 (st2 51 (st1 85 b7)) = pop8 b7 from rfl]
  generalize pop8 b0 = c0 at *
  generalize pop8 b1 = c1 at *
  generalize pop8 b2 = c2 at *
  generalize pop8 b3 = c3 at *
  generalize pop8 b4 = c4 at *
  generalize pop8 b5 = c5 at *
  generalize pop8 b6 = c6 at *
  generalize pop8 b7 = c7 at *
  clear p0 q0 r0 p1 q1 r1 p2 q2 r2 p3 q3 r3 p4 q4 r4 p5 q5 r5 p6 q6 r6 p7 q7 r7 u1 u2 u3 h0 h1 h2 h3 h4 h5 h6 h7 hx
  exact swar_sum t0 t1 t2 t3 t4 t5 t6 t7 rfl
end Go.Proofs.YtmmclabkkigiaaaDoor

namespace Go.Proofs.YtmmclabkkigiaaaDoor
open Go Go.RowKit

theorem vlook_vset {l : List (Int × Int)} {k v k' : Int} : vlook (vset l k v) k' = if k' = k then some v else vlook l k' := by
  cases hl : vlook l k with
  | none =>
    rw [vset_none hl]
    unfold vlook
    rw [List.find?_append]
    by_cases h : k' = k
    · subst h
      have h0 : l.find? (fun p => p.1 == k') = none := by
        unfold vlook at hl
        simpa using hl
      simp [h0]
    · have : ((k == k') : Bool) = false := by simpa using fun e => h e.symm
      simp [this, h]
  | some x =>
    have e : vset l k v = l.map fun p => if p.1 = k then (k, v) else p := by unfold vset; rw [hl]
    rw [e]
    clear e
    unfold vlook at hl ⊢
    induction l with
    | nil => simp at hl
    | cons p l ih =>
      by_cases hp : p.1 = k
      · by_cases h : k' = k
        · subst h; simp [hp]
        · have h1 : ((k == k') : Bool) = false := by simpa using fun e => h e.symm
          simp only [List.map_cons, hp, if_true, List.find?_cons, h1, h, if_false]
          have : ∀ m : List (Int × Int), (m.map fun p => if p.1 = k then (k, v) else p).find? (fun p => p.1 == k') = m.find? (fun p => p.1 == k') := by
            intro m
            induction m with
            | nil => rfl
            | cons q m ihm =>
              by_cases hq : q.1 = k
              · simp only [List.map_cons, hq, if_true, List.find?_cons, h1, ihm]
              · simp only [List.map_cons, hq, if_false, List.find?_cons, ihm]
          rw [this]
          try rfl
      · have hp' : ((p.1 == k) : Bool) = false := by simpa using hp
        simp only [List.find?_cons, hp'] at hl
        simp only [List.map_cons, hp, if_false, List.find?_cons]
        cases hq : (p.1 == k') with
        | true =>
          have : ¬ k' = k := by
            intro e; subst e; simp at hq; exact hp hq
          simp [this]
        | false =>
          have := ih (by simpa using hl)
          simpa using this

theorem vflat_get0 : ∀ {l : List (Int × Int)} {img : List Int}, Keys l → inside img.length l → ∀ {k : Nat}, k < img.length → (vflat img l).getD k 0 = (vlook l (k : Int)).getD (img.getD k 0)
  | [], img, _, _, k, hk => by simp [vflat, vlook]
  | p :: l, img, hn, hi, k, hk => by
    have hn' : Keys l := by simp only [Keys, List.map_cons, List.nodup_cons] at hn; exact hn.2
    have hp := hi p (List.mem_cons_self ..)
    have h1 := vflat_get0 (l := l) (img := img.set p.1.toNat p.2) hn' (by rw [List.length_set]; exact fun q hq => hi q (List.mem_cons_of_mem _ hq)) (k := k) (by simpa using hk)
    have e : vflat img (p :: l) = vflat (img.set p.1.toNat p.2) l := rfl
    rw [e, h1]
    by_cases h : p.1 = (k : Int)
    · have hnone : vlook l (k : Int) = none := by
        unfold vlook
        rw [Option.map_eq_none_iff, List.find?_eq_none]
        intro q hq hk'
        simp only [Keys, List.map_cons, List.nodup_cons, List.mem_map, not_exists, not_and] at hn
        exact hn.1 q hq (by rw [h]; simpa using hk')
      rw [hnone]
      have e2 : p.1.toNat = k := by omega
      rw [e2]
      simp [vlook, h, hk]
    · have e2 : ¬ p.1.toNat = k := by omega
      have e3 : ((p.1 == (k : Int)) : Bool) = false := by simpa using h
      have e4 : vlook (p :: l) (k : Int) = vlook l (k : Int) := by simp only [vlook, List.find?_cons, e3]
      rw [e4]
      congr 1
      simp [List.getD, List.getElem?_set_ne e2]

theorem vflat_get {l : List (Int × Int)} {img : List Int} (h : VOk img l) {k : Nat} (hk : k < img.length) : (vflat img l).getD k 0 = vget img l (k : Int) := by
  rw [vflat_get0 h.keys h.inside hk]
  simp only [vget]
  rw [if_pos (by omega)]
  rfl
theorem vget_nil {img : List Int} {k : Nat} (hk : k < img.length) : vget img [] (k : Int) = img.getD k 0 := by
  simp only [vget]
  rw [if_pos (by omega)]
  rfl
theorem vput_len (img : List Int) (l : List (Int × Int)) (a x : Int) : (vput img l a x).2.length ≤ l.length + 1 := by
  unfold vput
  split
  · cases hl : vlook l a with
    | some y => simp only; rw [vset_length_some (by rw [hl]; rfl)]; omega
    | none =>
      simp only
      split
      · simp
      · rw [vset_none hl]; simp
  · simp
theorem vput_in {img : List Int} {l : List (Int × Int)} {a x : Int} (h : 0 ≤ a ∧ a < img.length) (hm : l.length < 96) : vput img l a x = (0, vset l a x) := by
  simp only [vput]
  rw [if_pos h]
  cases vlook l a with
  | some y => rfl
  | none => exact if_neg (by omega)
theorem vget_vset {img : List Int} {l : List (Int × Int)} {a x k : Int} (h : 0 ≤ a ∧ a < img.length) : vget img (vset l a x) k = if k = a then x else vget img l k := by
  simp only [vget, vlook_vset]
  by_cases hk : k = a
  · subst hk; simp [h]
  · simp [hk]
end Go.Proofs.YtmmclabkkigiaaaDoor

namespace Go.Proofs.YtmmclabkkigiaaaDoor
open Go Go.RowKit

section
variable {M : Bool} {P : Program} {ops : Array Oper} {i : Nat} {s : Fs} {w w' : World} {K : Fs → World → Prop}

theorem ops_appendGrow {B : Nat} {w0 : World} {l0 : List Nat} {R : List Asn} {e : TypeId} {ad ad' : Addr} {n c m c' size bytes : Nat} {olds news : List Value}
    (hs : St B w0 l0 w R) (hq : appQ P ops i s e = some ((some ad, n, c), (some ad', m, c'), size, bytes))
    (hlo : olds.length = n * size) (holds : ∀ j v, olds[j]? = some v → w.cell? (ad.add j) = some v) (hl : news.length = m * size) (hnews : ∀ j v, news[j]? = some v → w.cell? (ad'.add j) = some v)
    (hg : c < n + m) (h63 : n + m ≤ maxLen) (hbytes : (n + m) * bytes ≤ 140737488355328)
    (hk : ∀ a'' c'' w', St B w0 l0 w' (rowA e size (.slice a'' (n + m) c'') (n + m) (olds ++ news) :: R) → OpsAt M P ops (i + 1) (putS s (dstOf ops i) (.slice a'' (n + m) c'')) w' K) : OpsAt M P ops i s w K := by
  unfold appQ at hq
  split at hq
  · rename_i o ho
    split at hq
    · rename_i x y t t' hop
      split at hq
      · rename_i e' f a1 n1 c1 a2 n2 c2 hu hi hx hy
        split at hq
        · rename_i z hz1 hz2 hz
          split at hq
          · rename_i hz3 hz4
            simp only [Option.some.injEq, Prod.mk.injEq] at hq
            obtain ⟨⟨rfl, rfl, rfl⟩, ⟨rfl, rfl, rfl⟩, rfl, rfl⟩ := hq
            obtain rfl := of_decide_eq_true hz1
            obtain rfl := of_decide_eq_true hz2
            have hzs := of_decide_eq_true hz3
            have hB := hs.size
            have hr := run_append_grow (P := P) w t o.type e' f z hu hi hz ad n1 c1 olds hlo holds ad' n2 c2 news hl hnews hg (by simp only [maxLen] at h63; omega) (growslice_fits (by omega) hbytes)
            have hge := grownCap_ge w (n1 + n2) c1 e'
            have hcm : grownCap w (n1 + n2) c1 e' ≤ maxLen := grownCap_le_maxLen w (n1 + n2) c1 e' h63
            have hlen : (olds ++ news).length = (n1 + n2) * f.size := by rw [List.length_append, hlo, hl, Nat.add_mul]
            refine ops_runs ho (v := .slice (some ⟨w.heap.size, 0, none⟩) (n1 + n2) (grownCap w (n1 + n2) c1 e')) (w' := w.drew.alloc (.cells (olds.toArray ++ news.toArray ++ Builtin.zeroCells z.cells (grownCap w (n1 + n2) c1 e' - (n1 + n2))) e')) ?_ (hk _ _ _ ?_)
            · simp only [execOp, hop, resolve, invoke, builtin, Sem.run_bind, Sem.run_pure, Result.andThen_ok, List.map_toArray, List.map_cons, List.map_nil, hx, hy, hr]
            · have hsd : St B w0 l0 w.drew R := hs.drew
              refine St.step0 (post := [rowA e' f.size (.slice (some ⟨w.heap.size, 0, none⟩) (n1 + n2) (grownCap w (n1 + n2) c1 e')) (n1 + n2) (olds ++ news)]) hsd
                ⟨[w.heap.size], ⟨[w.heap.size], [], ⟨⟨hlen, .inr ⟨w.heap.size, _, _, rfl, hB, heap_alloc_new w.drew _, hge, hcm, ?_, ?_⟩⟩, rfl⟩, fun b => by simp, fun b _ => by simp, by simp⟩, ?_⟩
              · simp only [Array.size_append, List.size_toArray, size_zeroCells, hzs, hlo, hl, ← Nat.add_mul]
                congr 1
                omega
              · simp only [Array.toList_append, List.append_assoc]
                rw [← List.append_assoc, ← hlen]
                exact List.take_left
              · refine ⟨rfl, rfl, rfl, by simp, fun b hb _ => Below.heap_alloc _ _ _ hb, fun b hb => .inr ?_⟩
                simp only [List.mem_singleton] at hb
                subst hb
                exact Nat.le_refl _
          · cases hq
        · cases hq
      · cases hq
    · cases hq
  · cases hq

end
end Go.Proofs.YtmmclabkkigiaaaDoor

namespace Go.Proofs.YtmmclabkkigiaaaDoor
open Go Go.RowKit

section
variable {M : Bool} {P : Program} {ops : Array Oper} {i : Nat} {s : Fs} {w w' : World} {K : Fs → World → Prop}

def mkQ (P : Program) (ops : Array Oper) (i : Nat) (s : Fs) : Option (TypeId × Int × Int × Nat × Nat × List Value) :=
  match opQ ops i s with
  | some o => match o.op with
    | .makeSlice t x y => match P.underlying t, evS s x, evS s y with
      | some (.slice e), .int _ l, .int _ c => match P.info? e with
        | some f => match f.zero with
          | some z => some (e, l, c, f.size, f.bytes, z.cells.toList)
          | none => none
        | none => none
      | _, _, _ => none
    | _ => none
  | none => none

theorem flatMap_replicate {α : Type} (n : Nat) (d : α) (f : α → List Value) : (List.replicate n d).flatMap f = (List.replicate n (f d)).flatten := by
  induction n with
  | zero => rfl
  | succ n ih => simp [List.replicate_succ, ih]

theorem made_list (zs : Array Value) (hz : 0 < zs.size) : ∀ n : Nat, (madeCells zs (n * zs.size)).toList = (List.replicate n zs.toList).flatten := by
  intro n
  refine List.ext_getElem ?_ fun j h1 h2 => ?_
  · simp [madeCells]
  · have hj : j < n * zs.size := by simpa [madeCells] using h1
    have hi : j / zs.size < n := Nat.div_lt_of_lt_mul (by rw [Nat.mul_comm]; exact hj)
    have hm : j % zs.size < zs.size := Nat.mod_lt _ hz
    simp only [madeCells, Array.getElem_toList, Array.getElem_map, Array.getElem_range]
    clear h1
    induction n generalizing j with
    | zero => simp at hj
    | succ n ih =>
      simp only [List.replicate_succ, List.flatten_cons]
      by_cases hlt : j < zs.size
      · rw [List.getElem_append_left (by simpa using hlt), Nat.mod_eq_of_lt hlt]
        simp [hlt]
      · rw [List.getElem_append_right (by simpa using hlt)]
        have e1 : (j - zs.toList.length) % zs.size = j % zs.size := by
          rw [Array.length_toList, ← Nat.mod_eq_sub_mod (by omega)]
        have hj' : j - zs.toList.length < n * zs.size := by rw [Array.length_toList]; rw [Nat.add_mul] at hj; omega
        have h := ih (j - zs.toList.length) (by simpa using hj') hj' (Nat.div_lt_of_lt_mul (by rw [Nat.mul_comm]; exact hj')) (Nat.mod_lt _ hz)
        rw [← h, e1]

theorem ops_makeSlice {α : Type} (Kd : Kind α) (d : α) {B : Nat} {w0 : World} {l0 : List Nat} {R : List Asn} {z : Int} (n : Nat) {bytes : Nat} (hz : z = (n : Int)) (hs : St B w0 l0 w R)
    (hq : mkQ P ops i s = some (Kd.e, z, z, Kd.size, bytes, Kd.elem d)) (hb : bytes * n ≤ 281474976710656) (hm : n ≤ maxLen)
    (hk : ∀ b w', St B w0 l0 w' (Kd.row (some ⟨b, 0, none⟩) n (List.replicate n d) :: R) → OpsAt M P ops (i + 1) (putS s (dstOf ops i) (.slice (some ⟨b, 0, none⟩) n n)) w' K) : OpsAt M P ops i s w K := by
  subst hz
  unfold mkQ at hq
  split at hq
  · rename_i o ho
    split at hq
    · rename_i t x y hop
      split at hq
      · rename_i e q1 l q2 c hu hx hy
        split at hq
        · rename_i f hi
          split at hq
          · rename_i zz hzz
            simp only [Option.some.injEq, Prod.mk.injEq] at hq
            obtain ⟨rfl, rfl, rfl, hsz, rfl, hcs⟩ := hq
            have hB := hs.size
            obtain ⟨w', hr, hown, hgr⟩ := run_make_full (P := P) w B t Kd.e f zz Kd.size hu hi hzz hsz q1 q2 n hb hm hB
            have hzs : zz.cells.size = Kd.size := by rw [← Array.length_toList, hcs, Kd.elen]
            have hlist : (madeCells zz.cells (n * Kd.size)).toList = Kd.cells (List.replicate n d) := by
              rw [← hzs, made_list _ (by rw [hzs]; exact Kd.pos), hcs]
              exact (flatMap_replicate n d Kd.elem).symm
            rw [hlist] at hown
            refine ops_runs ho (v := .slice (some ⟨w.heap.size, 0, none⟩) n n) (w' := w') ?_ (hk _ _ ?_)
            · simp only [execOp, hop, hx, hy, Sem.run_bind, Result.andThen_ok, Sem.run_pure, hr]
            · refine St.step0 (post := [Kd.row (some ⟨w.heap.size, 0, none⟩) n (List.replicate n d)]) hs ⟨[w.heap.size], ⟨[w.heap.size], [], ⟨?_, rfl⟩, fun b => by simp, fun b _ => by simp, by simp⟩, ?_⟩
              · simpa using hown
              · refine ⟨hgr.os, hgr.tape, hgr.output, hgr.size, fun b hb _ => hgr.block b hb (by simp), fun b hb => .inr ?_⟩
                simp only [List.mem_singleton] at hb
                subst hb
                exact Nat.le_refl _
          · cases hq
        · cases hq
      · cases hq
    · cases hq
  · cases hq
end
end Go.Proofs.YtmmclabkkigiaaaDoor

namespace Go.Proofs.YtmmclabkkigiaaaDoor
open Go Go.RowKit

section
variable {M : Bool} {P : Program} {ops : Array Oper} {T : List (Nat × Nat)} {S : World → Prop} {s : Fs} {w : World} {K : Fs → World → Prop}

theorem any_step2 (i j : Nat) {fuel : Nat} {L : Nat} (hr : readyM T L = [i, j]) (hi' : (opQ ops i s).isSome = true) (hj' : (opQ ops j s).isSome = true)
    (hi : OpsAt false P (alone ops i) 0 s w (fun s' w' => S w' ∧ AnyAt P ops T S fuel (Nat.lor L (Nat.shiftLeft 1 i)) s' w' K))
    (hj : OpsAt false P (alone ops j) 0 s w (fun s' w' => S w' ∧ AnyAt P ops T S fuel (Nat.lor L (Nat.shiftLeft 1 j)) s' w' K)) : AnyAt P ops T S (fuel + 1) L s w K := by
  refine any_steps [i, j] hr (by simp) ?_ ?_
  · intro k hk
    simp only [List.mem_cons, List.not_mem_nil, or_false] at hk
    rcases hk with rfl | rfl
    · exact hi'
    · exact hj'
  · intro k hk
    simp only [List.mem_cons, List.not_mem_nil, or_false] at hk
    rcases hk with rfl | rfl
    · exact hi
    · exact hj
end
end Go.Proofs.YtmmclabkkigiaaaDoor

namespace Go.Proofs.YtmmclabkkigiaaaDoor
open Go Go.RowKit

def May (gw gi gb : Int) : Prop := (1 ≤ gw ∧ gw ≤ 4) ∧ (2 ≤ gi ∧ gi ≤ 64) ∧ (2 ≤ gb ∧ gb ≤ 512)
instance (gw gi gb : Int) : Decidable (May gw gi gb) := by unfold May; exact inferInstance
theorem may_out {gw gi gb : Int} (h : May gw gi gb) : (1 ≤ gw ∧ gw ≤ 4) ∧ (2 ≤ gi ∧ gi ≤ 64) ∧ (2 ≤ gb ∧ gb ≤ 512) := h
def placeOf (k : Nat) (gw gi gb n : Int) : Int :=
  if May gw gi gb then
    match k with
    | 2 => if 0 ≤ n ∧ n < 4 then 8 + 64 * n else -1
    | 6 => if 0 ≤ n ∧ n < 1 then 264 + 208 * gw + 8 * n else -1
    | 7 => if 0 ≤ n ∧ n < 1 then 272 + 208 * gw + 8 * n else -1
    | 8 => if 0 ≤ n ∧ n < gi then 280 + 208 * gw + 16 * n else -1
    | 9 => if 0 ≤ n ∧ n < gb then 280 + 208 * gw + 16 * gi + 8 * n else -1
    | _ => -1
  else -1
def wordsOf (gw gi gb : Int) : Int := if May gw gi gb then 280 + 208 * gw + 16 * gi + 8 * gb else 0
def fmtW (gw gi gb : Int) : List Int :=
  if May gw gi gb then
    ((((((((List.replicate (wordsOf gw gi gb).toNat 0).set 0 32762617960297063).set 1 gw).set 2 gi).set 3 gb).set (placeOf 6 gw gi gb 0).toNat 3).set (placeOf 7 gw gi gb 0).toNat 1).set (placeOf 8 gw gi gb 1).toNat 2).set (placeOf 8 gw gi gb 1 + 1).toNat 1
  else []
theorem fmtW_len (gw gi gb : Int) : (fmtW gw gi gb).length = (wordsOf gw gi gb).toNat := by
  unfold fmtW
  split
  · simp only [List.length_set, List.length_replicate]
  · rename_i h; simp [wordsOf, h]
theorem words_may {gw gi gb : Int} (h : May gw gi gb) : wordsOf gw gi gb = 280 + 208 * gw + 16 * gi + 8 * gb := by simp only [wordsOf, if_pos h]
theorem place6 {gw gi gb : Int} (h : May gw gi gb) : placeOf 6 gw gi gb 0 = 264 + 208 * gw := by simp [placeOf, h]
theorem place7 {gw gi gb : Int} (h : May gw gi gb) : placeOf 7 gw gi gb 0 = 272 + 208 * gw := by simp [placeOf, h]
theorem place8_in {gw gi gb n : Int} (h : May gw gi gb) (hn : 0 ≤ n ∧ n < gi) : placeOf 8 gw gi gb n = 280 + 208 * gw + 16 * n := by simp [placeOf, h, hn]
theorem place8_cases (gw gi gb n : Int) : placeOf 8 gw gi gb n = -1 ∧ ¬ (May gw gi gb ∧ 0 ≤ n ∧ n < gi) ∨ (May gw gi gb ∧ (0 ≤ n ∧ n < gi) ∧ placeOf 8 gw gi gb n = 280 + 208 * gw + 16 * n) := by
  by_cases h : May gw gi gb
  · by_cases hn : 0 ≤ n ∧ n < gi
    · exact .inr ⟨h, hn, place8_in h hn⟩
    · exact .inl ⟨by simp [placeOf, h, hn], fun q => hn q.2⟩
  · exact .inl ⟨by simp [placeOf, h], fun q => h q.1⟩
def mx (x y : Int) : Int := if y > x then y else x
def mn (x y : Int) : Int := if y < x then y else x
theorem mx_lt {x y z : Int} : mx x y < z ↔ x < z ∧ y < z := by unfold mx; split <;> omega

theorem le_mx {x y z : Int} : z ≤ mx x y ↔ z ≤ x ∨ z ≤ y := by unfold mx; split <;> omega

structure Nd where
  k : Int
  l : Int
  o : Int
  s : Int
  a : Int
  b : Int
  c : Int
  d : Int
  e : Int
  m : Int
def Nd.zero : Nd := ⟨0, 0, 0, 0, 0, 0, 0, 0, 0, 0⟩
def RightP (gw gi gb : Int) (x : Nd) : Prop :=
  May gw gi gb ∧ (x.a < gb ∧ x.b < gb ∧ x.c < gb ∧ x.d < gb ∧ x.e < gb ∧ x.m < gi) ∧ (x.l ≤ 65536 ∧ x.o ≤ 16 ∧ x.s ≤ 768) ∧ ((x.k = 1 ∧ x.m = 0) ∨ (x.k = 2 ∧ x.s = 0))
instance (gw gi gb : Int) (x : Nd) : Decidable (RightP gw gi gb x) := by unfold RightP; exact inferInstance

def vwrite (img : List Int) (l : List (Int × Int)) (at_ x : Int) : Int × List (Int × Int) :=
  if at_ < 0 ∨ at_ ≥ img.length then (8, l) else if vget img l at_ = x then (0, l) else vput img l at_ x
def ifind (len : Int) (gw gi gb n : Int) : Int × Int :=
  if placeOf 8 gw gi gb n < 0 ∨ n = 0 then (0, 1) else if len < wordsOf gw gi gb then (0, 8) else (placeOf 8 gw gi gb n, 0)
theorem ifind_range (len gw gi gb n : Int) : ((ifind len gw gi gb n).2 = 0 ∨ (ifind len gw gi gb n).2 = 1 ∨ (ifind len gw gi gb n).2 = 8) ∧ (0 ≤ (ifind len gw gi gb n).1 ∧ (ifind len gw gi gb n).1 ≤ 2200) ∧ ((ifind len gw gi gb n).2 = 0 → (ifind len gw gi gb n).1 = placeOf 8 gw gi gb n) := by
  have hp : -1 ≤ placeOf 8 gw gi gb n ∧ placeOf 8 gw gi gb n ≤ 2200 := by
    rcases place8_cases gw gi gb n with ⟨h, _⟩ | ⟨h, hn, e⟩
    · omega
    · have h_ : (1 ≤ gw ∧ gw ≤ 4) ∧ (2 ≤ gi ∧ gi ≤ 64) ∧ (2 ≤ gb ∧ gb ≤ 512) := h
      omega
  unfold ifind
  split
  · simp
  · split
    · simp
    · simp; omega
def ndAt (img : List Int) (l : List (Int × Int)) (at_ : Int) : Nd :=
  ⟨vget img l (at_ + 0), vget img l (at_ + 1), vget img l (at_ + 2), vget img l (at_ + 3), vget img l (at_ + 4), vget img l (at_ + 5), vget img l (at_ + 6), vget img l (at_ + 7), vget img l (at_ + 8), vget img l (at_ + 9)⟩
def igetM (img : List Int) (l : List (Int × Int)) (gw gi gb n : Int) : Nd × Int :=
  if (ifind img.length gw gi gb n).2 = 0 then
    if RightP gw gi gb (ndAt img l (ifind img.length gw gi gb n).1) then (ndAt img l (ifind img.length gw gi gb n).1, 0) else (.zero, 4)
  else (.zero, (ifind img.length gw gi gb n).2)
end Go.Proofs.YtmmclabkkigiaaaDoor

namespace Go.Proofs.YtmmclabkkigiaaaDoor
open Go Go.RowKit
set_option linter.unusedVariables false

def U64 (v : Int) : Prop := 0 ≤ v ∧ v < 18446744073709551616
theorem u64_zero : U64 0 := by unfold U64; omega
def VR (img : List Int) (l : List (Int × Int)) : Prop := ∀ k, U64 (vget img l k)
theorem VR.nil {img : List Int} (h : ∀ x ∈ img, U64 x) : VR img [] := by
  intro k
  unfold vget
  split
  · simp only [show vlook [] k = none from rfl, Option.getD_none]
    rw [List.getD_eq_getElem?_getD]
    rcases Nat.lt_or_ge k.toNat img.length with hk | hk
    · rw [List.getElem?_eq_getElem hk]; exact h _ (List.getElem_mem hk)
    · rw [List.getElem?_eq_none hk]; exact u64_zero
  · exact u64_zero
theorem VR.put {img : List Int} {l : List (Int × Int)} {a x : Int} (h : VR img l) (ha : 0 ≤ a ∧ a < img.length) (hx : U64 x) : VR img (vset l a x) := by
  intro k
  rw [vget_vset ha]
  split
  · exact hx
  · exact h k
theorem vget_out {img : List Int} {l : List (Int × Int)} {k : Int} (h : ¬ (0 ≤ k ∧ k < img.length)) : vget img l k = 0 := by
  unfold vget; rw [if_neg h]
theorem vget_flat {img : List Int} {l : List (Int × Int)} (hok : VOk img l) (k : Int) : vget (vflat img l) [] k = vget img l k := by
  have hl := vflat_length img l
  by_cases h : 0 ≤ k ∧ k < img.length
  · obtain ⟨n, rfl⟩ := Int.eq_ofNat_of_zero_le h.1
    rw [vget_nil (by omega), vflat_get hok (by omega)]
  · rw [vget_out h, vget_out (by rw [hl]; exact h)]
theorem u64_flat {img : List Int} {l : List (Int × Int)} (hok : VOk img l) (hv : VR img l) : ∀ x ∈ vflat img l, U64 x := by
  intro x hx
  obtain ⟨k, hk, rfl⟩ := List.getElem_of_mem hx
  have hl := vflat_length img l
  have e := vflat_get hok (k := k) (by omega)
  rw [List.getD_eq_getElem?_getD, List.getElem?_eq_getElem hk] at e
  simp only [Option.getD_some] at e
  rw [e]
  exact hv _
theorem fmtW_u64 {gw gi gb : Int} : ∀ x ∈ fmtW gw gi gb, U64 x := by
  intro x hx
  unfold fmtW at hx
  split at hx
  · rename_i hm
    have hm_ := may_out hm
    unfold U64
    rcases List.mem_or_eq_of_mem_set hx with hx | rfl
    · rcases List.mem_or_eq_of_mem_set hx with hx | rfl
      · rcases List.mem_or_eq_of_mem_set hx with hx | rfl
        · rcases List.mem_or_eq_of_mem_set hx with hx | rfl
          · rcases List.mem_or_eq_of_mem_set hx with hx | rfl
            · rcases List.mem_or_eq_of_mem_set hx with hx | rfl
              · rcases List.mem_or_eq_of_mem_set hx with hx | rfl
                · rcases List.mem_or_eq_of_mem_set hx with hx | rfl
                  · have := List.eq_of_mem_replicate hx
                    omega
                  · omega
                · omega
              · omega
            · omega
          · omega
        · omega
      · omega
    · omega
  · simp at hx
end Go.Proofs.YtmmclabkkigiaaaDoor

set_option maxRecDepth 20000
set_option maxHeartbeats 2000000
namespace Go.Proofs.YtmmclabkkigiaaaDoor
open Go Go.RowKit
set_option linter.unusedSimpArgs false
set_option linter.unusedVariables false

theorem words1_spec {mb vb cb yl : Nat} {img : List Int} {l : List (Int × Int)} {at_ many : Int} {w00 : World} {Y : Nat → Asn} {Z : Asn} (B : Nat) (w : World) (hM : (0 ≤ at_ ∧ at_ ≤ 1000000000000) ∧ (1 ≤ many ∧ many ≤ 1000000000000)) (hmb : w00.heap[mb]? = some (.cells [(.pointer (some ⟨vb, 0, none⟩)), (.int .i64 at_), (.int .i64 many)].toArray 136 (0, 0))) (hv : ViewAt (ptr vb) img l w00) (hy : ∀ k : Nat, 64 * (k : Int) < many → ∀ w', YSpec Tryd.prog yl #[.int .i64 (64 * (k : Int)), .int .u64 (mwordAt img l at_ many k)] B w' [Y k] (fun v H' => (v = .bool true ∧ H' = [Y (k + 1)]) ∨ (v = .bool false ∧ H' = [Z]))) : Spec Tryd.prog 102 #[(.func (.yield yl) #[] #[]), (.pointer (some ⟨cb, 0, none⟩))] B w [keepA w00, blk cb (.cells [(.pointer (some ⟨mb, 0, none⟩))].toArray 108 (0, 0)), Y 0] (fun v H' => v = .tuple #[] ∧ (H' = [keepA w00, blk cb (.cells [(.pointer (some ⟨mb, 0, none⟩))].toArray 108 (0, 0)), Y (nWords many)] ∨ H' = [keepA w00, blk cb (.cells [(.pointer (some ⟨mb, 0, none⟩))].toArray 108 (0, 0)), Z])) := by
 refine spec_W Tryd.func102 rfl fun l0 hs => ?_
 refine W.seq fun K1 hK1 => ?_
 refine W.sr fun K2 hK2 => ?_
 refine zL ⟨cb, 0, none⟩ (.pointer (some ⟨mb, 0, none⟩)) (hs.cellAt 1 rfl rfl) ?_
 refine zE 1 (hK2 _ _ ?_)
 refine W.cond_false false (by kernel_rfl) rfl ?_
 refine W.skip ?_
 refine hK1 _ _ ?_
 refine W.sr fun K3 hK3 => ?_
 refine zE 1 (hK3 _ _ ?_)
 refine W.block ?_
 refine W.loop (G := Nat) (fun | k, s_, w_ => (∃ us, s_ = slots 46 [(0, (.func (.yield yl) #[] #[])), (1, (.pointer (some ⟨cb, 0, none⟩))), (3, (.int .i64 (64 * (k : Int))))] us) ∧ St B w l0 w_ [keepA w00, blk cb (.cells [(.pointer (some ⟨mb, 0, none⟩))].toArray 108 (0, 0)), Y k] ∧ (64 * (k : Int) < many + 64)) (fun k => (many - 64 * (k : Int)).toNat) 0 ⟨slots_intro _ (by kernel_rfl), hs, by omega⟩ ?_
 rintro k _ w4 ⟨⟨us, rfl⟩, hs5, hk0⟩
 refine W.seq fun K6 hK6 => ?_
 refine W.sr fun K7 hK7 => ?_
 refine zR 1 ?_
 refine zL ⟨cb, 0, none⟩ (.pointer (some ⟨mb, 0, none⟩)) (hs5.cellAt 1 rfl rfl) ?_
 refine zR 2 ?_
 refine zL ⟨mb, 2, none⟩ (.int .i64 many) (cell_of_blk ((St.kept hs5 0 rfl).blk hmb) rfl) ?_
 refine zE 1 (hK7 _ _ ?_)
 refine W.cond (decide ((64 * (k : Int)) < many)) (by kernel_rfl) (fun h8 => ?_) (fun h8 => ?_)
 ·
  have h8p := of_decide_eq_true h8
  refine W.skip ?_
  refine hK6 _ _ ?_
  refine W.seq fun K9 hK9 => ?_
  refine W.block ?_
  refine W.seq fun K10 hK10 => ?_
  have hs11 := hs5.drew
  refine W.regionD [(0, 0), (1, 1), (2, 2), (4, 4), (0, 0), (16, 16), (32, 32), (64, 64), (0, 0), (256, 256), (640, 640), (1032, 1032), (4095, 2048)] (fun w_ => St B w l0 w_ [keepA w00, blk cb (.cells [(.pointer (some ⟨mb, 0, none⟩))].toArray 108 (0, 0)), Y k]) (by kernel_rfl) hs11 ?_
  refine any_R 0 (by kernel_rfl) (fun _ hS_ => runs_load (ad := ⟨cb, 0, none⟩) (v := (.pointer (some ⟨mb, 0, none⟩))) (by kernel_rfl) (hS_.cellAt 1 rfl rfl)) hs11 ?_
  refine any_val (v := (.pointer (some ⟨mb, 0, none⟩))) (v' := (.pointer (some ⟨mb, 0, none⟩))) 1 (by kernel_rfl) (fun _ => by kernel_rfl) rfl hs11 ?_
  refine any_val (v := (.pointer (some ⟨mb, 0, none⟩))) (v' := (.pointer (some ⟨mb, 0, none⟩))) 2 (by kernel_rfl) (fun _ => by kernel_rfl) rfl hs11 ?_
  refine any_R 3 (by kernel_rfl) (fun _ hS_ => runs_load (ad := ⟨mb, 0, none⟩) (v := (.pointer (some ⟨vb, 0, none⟩))) (by kernel_rfl) (cell_of_blk ((St.kept hS_ 0 rfl).blk hmb) rfl)) hs11 ?_
  refine any_R 4 (by kernel_rfl) (fun _ hS_ => runs_load (ad := ⟨cb, 0, none⟩) (v := (.pointer (some ⟨mb, 0, none⟩))) (by kernel_rfl) (hS_.cellAt 1 rfl rfl)) hs11 ?_
  refine any_val (v := (.pointer (some ⟨mb, 0, none⟩))) (v' := (.pointer (some ⟨mb, 0, none⟩))) 5 (by kernel_rfl) (fun _ => by kernel_rfl) rfl hs11 ?_
  refine any_val (v := (.pointer (some ⟨mb, 1, none⟩))) (v' := (.pointer (some ⟨mb, 1, none⟩))) 6 (by kernel_rfl) (fun _ => by kernel_rfl) rfl hs11 ?_
  refine any_R 7 (by kernel_rfl) (fun _ hS_ => runs_load (ad := ⟨mb, 1, none⟩) (v := (.int .i64 at_)) (by kernel_rfl) (cell_of_blk ((St.kept hS_ 0 rfl).blk hmb) rfl)) hs11 ?_
  refine any_val (v := (.int .i64 (64 * (k : Int)))) (v' := (.int .i64 (64 * (k : Int)))) 8 (by kernel_rfl) (fun _ => by kernel_rfl) rfl hs11 ?_
  have h12 : 0 ≤ (64 * (k : Int)) := by omega
  have h13 : -9223372036854775808 ≤ ((64 * (k : Int)) / 64) ∧ ((64 * (k : Int)) / 64) ≤ 9223372036854775807 := by omega
  refine any_R (v := .int .i64 ((64 * (k : Int)) / 64)) 9 (by kernel_rfl) (fun _ hS_ => runs_quo (k := .i64) (a := (64 * (k : Int))) (b := 64) (by kernel_rfl) (by decide) ((congrArg IntKind.i64.wrap (Int.tdiv_eq_ediv_of_nonneg h12)).trans (wrap_i64 h13.1 h13.2))) hs11 ?_
  have h14 : -9223372036854775808 ≤ (at_ + ((64 * (k : Int)) / 64)) ∧ (at_ + ((64 * (k : Int)) / 64)) ≤ 9223372036854775807 := by omega
  refine any_val (v := .int .i64 (IntKind.i64.wrap (at_ + ((64 * (k : Int)) / 64)))) (v' := .int .i64 (at_ + ((64 * (k : Int)) / 64))) 10 (by kernel_rfl) (fun _ => by kernel_rfl) (congrArg (Value.int .i64) (wrap_i64 h14.1 h14.2)) hs11 ?_
  refine any_step 11 (by kernel_rfl) (by kernel_rfl) ?_
  refine zC00 hs11 (get_spec (at_ := (at_ + ((64 * (k : Int)) / 64))) (hv := ((St.kept hs11 0 rfl).view hv)) B _) fun w15 hs17 => ?_
  refine ops_done (by kernel_rfl) ⟨hs17, ?_⟩
  refine any_val (v := (.int .u64 (vget img l (at_ + ((64 * (k : Int)) / 64))))) (v' := (.int .u64 (vget img l (at_ + ((64 * (k : Int)) / 64))))) 12 (by kernel_rfl) (fun _ => by kernel_rfl) rfl hs17 ?_
  refine any_done (by kernel_rfl) ?_
  refine hK10 _ _ ?_
  refine W.seq fun K18 hK18 => ?_
  refine W.sr fun K19 hK19 => ?_
  refine zL ⟨cb, 0, none⟩ (.pointer (some ⟨mb, 0, none⟩)) (hs17.cellAt 1 rfl rfl) ?_
  refine zR 2 ?_
  refine zL ⟨mb, 2, none⟩ (.int .i64 many) (cell_of_blk ((St.kept hs17 0 rfl).blk hmb) rfl) ?_
  refine zR 1 ?_
  have h20 : -9223372036854775808 ≤ (many - (64 * (k : Int))) ∧ (many - (64 * (k : Int))) ≤ 9223372036854775807 := by omega
  refine zI _ (wrap_i64 h20.1 h20.2) ?_
  refine zE 1 (hK19 _ _ ?_)
  refine W.sr fun K21 hK21 => ?_
  refine zE 2 (hK21 _ _ ?_)
  refine W.cond (decide ((many - (64 * (k : Int))) < 64)) (by kernel_rfl) (fun h22 => ?_) (fun h22 => ?_)
  ·
   have h22p := of_decide_eq_true h22
   refine W.region ?_
   refine zR 2 ?_
   have h23 : 0 ≤ (many - (64 * (k : Int))) := by omega
   refine ops_R (v := .int .u64 (shlK .u64 1 (many - (64 * (k : Int))))) (runs_shift (b := true) (k := .u64) (x := 1) (y := (many - (64 * (k : Int)))) (by kernel_rfl) h23) ?_
   refine ops_val (v := .int .u64 (IntKind.u64.wrap ((shlK .u64 1 (many - (64 * (k : Int)))) - 1))) (v' := .int .u64 (((shlK .u64 1 (many - (64 * (k : Int)))) - 1) % 18446744073709551616)) (by kernel_rfl) (congrArg (Value.int .u64) (wrap_u64_mod _)) ?_
   refine zE 2 (hK18 _ _ ?_)
   refine W.sr fun K24 hK24 => ?_
   refine zR 3 ?_
   have hw_ : (bits .and .u64 (vget img l (at_ + ((64 * (k : Int)) / 64))) (((shlK .u64 1 (many - (64 * (k : Int)))) - 1) % 18446744073709551616)) = mwordAt img l at_ many k := by exact mword_part (by omega) (by omega)
   refine ops_set 43 (v := .int .u64 (mwordAt img l at_ many k)) (Eq.trans (by kernel_rfl) (congrArg (Value.int .u64) hw_)) ?_
   have hs25 := St.f2 hs17
   refine ops_yield (pre := [Y k]) (l := yl) hs25 (by kernel_rfl) (by kernel_rfl) (hy k (by omega) _) ?_
   rintro _ _ w26 (⟨rfl, rfl⟩ | ⟨rfl, rfl⟩) hs27
   ·
    have hs28 : St B w l0 w26 [Y (k + 1), keepA w00, blk cb (.cells [(.pointer (some ⟨mb, 0, none⟩))].toArray 108 (0, 0))] := hs27
    refine zE 1 (hK24 _ _ ?_)
    refine W.cond_false false (by kernel_rfl) rfl ?_
    refine W.skip ?_
    refine normal_block ?_
    refine hK9 _ _ ?_
    refine W.region ?_
    refine zR 1 ?_
    have h29 : -9223372036854775808 ≤ ((64 * (k : Int)) + 64) ∧ ((64 * (k : Int)) + 64) ≤ 9223372036854775807 := by omega
    refine zI _ (wrap_i64 h29.1 h29.2) ?_
    refine zE 1 ?_
    have hs30 := St.f2 hs28
    have hs31 := St.f2 hs30
    exact ⟨k + 1, ⟨slots_intro _ (by kernel_rfl), hs31, by omega⟩, by omega⟩
   ·
    have hs32 : St B w l0 w26 [Z, keepA w00, blk cb (.cells [(.pointer (some ⟨mb, 0, none⟩))].toArray 108 (0, 0))] := hs27
    refine zE 1 (hK24 _ _ ?_)
    refine W.cond_true true (by kernel_rfl) rfl ?_
    refine W.ret (ret_block (ret_seq (ret_seq (ret_block ?_))))
    have hs33 := St.f2 hs32
    have hs34 := St.f2 hs33
    refine ret_of (.tuple #[]) (by kernel_rfl) ⟨_, ⟨rfl, .inr rfl⟩, hs34⟩
  ·
   have h22p := of_decide_eq_false h22
   refine W.skip ?_
   refine hK18 _ _ ?_
   refine W.sr fun K35 hK35 => ?_
   refine zR 3 ?_
   have hw_ : (vget img l (at_ + ((64 * (k : Int)) / 64))) = mwordAt img l at_ many k := by exact mword_whole (by omega)
   refine ops_set 43 (v := .int .u64 (mwordAt img l at_ many k)) (Eq.trans (by kernel_rfl) (congrArg (Value.int .u64) hw_)) ?_
   have hs36 := St.f2 hs17
   refine ops_yield (pre := [Y k]) (l := yl) hs36 (by kernel_rfl) (by kernel_rfl) (hy k (by omega) _) ?_
   rintro _ _ w37 (⟨rfl, rfl⟩ | ⟨rfl, rfl⟩) hs38
   ·
    have hs39 : St B w l0 w37 [Y (k + 1), keepA w00, blk cb (.cells [(.pointer (some ⟨mb, 0, none⟩))].toArray 108 (0, 0))] := hs38
    refine zE 1 (hK35 _ _ ?_)
    refine W.cond_false false (by kernel_rfl) rfl ?_
    refine W.skip ?_
    refine normal_block ?_
    refine hK9 _ _ ?_
    refine W.region ?_
    refine zR 1 ?_
    have h40 : -9223372036854775808 ≤ ((64 * (k : Int)) + 64) ∧ ((64 * (k : Int)) + 64) ≤ 9223372036854775807 := by omega
    refine zI _ (wrap_i64 h40.1 h40.2) ?_
    refine zE 1 ?_
    have hs41 := St.f2 hs39
    have hs42 := St.f2 hs41
    exact ⟨k + 1, ⟨slots_intro _ (by kernel_rfl), hs42, by omega⟩, by omega⟩
   ·
    have hs43 : St B w l0 w37 [Z, keepA w00, blk cb (.cells [(.pointer (some ⟨mb, 0, none⟩))].toArray 108 (0, 0))] := hs38
    refine zE 1 (hK35 _ _ ?_)
    refine W.cond_true true (by kernel_rfl) rfl ?_
    refine W.ret (ret_block (ret_seq (ret_seq (ret_block ?_))))
    have hs44 := St.f2 hs43
    have hs45 := St.f2 hs44
    refine ret_of (.tuple #[]) (by kernel_rfl) ⟨_, ⟨rfl, .inr rfl⟩, hs45⟩
 ·
  have h8p := of_decide_eq_false h8
  refine W.exit (exit_seq (exit_seq (exit_here ?_)))
  have hn_ : k = nWords many := by unfold nWords; omega
  subst hn_
  refine ret_ofN (.tuple #[]) (by kernel_rfl) ⟨_, ⟨rfl, .inl rfl⟩, hs5⟩

end Go.Proofs.YtmmclabkkigiaaaDoor

set_option maxRecDepth 20000
namespace Go.Proofs.YtmmclabkkigiaaaDoor
open Go Go.RowKit
set_option linter.unusedSimpArgs false
set_option linter.unusedVariables false

theorem words_spec {mp : Option Addr} (B : Nat) (w : World) : Spec Tryd.prog 97 #[(.pointer mp)] B w [] (fun v H' => ∃ b', v = .func (.func 102) #[] #[ptr b'] ∧ H' = [blk b' (.cells [(.pointer mp)].toArray 108 (0, 0))]) := by
 refine spec_Q Tryd.func97 rfl fun hs => ?_
 refine W.sr fun K1 hK1 => ?_
 refine zN [(.pointer mp)] 108 hs fun b4 w2 hs3 => ?_
 refine zE 1 (hK1 _ _ ?_)
 refine W.sr fun K5 hK5 => ?_
 refine zE 2 (hK5 _ _ ?_)
 refine W.ret ?_
 refine ret_of (.func (.func 102) #[] #[(.pointer (some ⟨b4, 0, none⟩))]) (by kernel_rfl) ⟨_, ⟨b4, rfl, rfl⟩, hs3⟩

end Go.Proofs.YtmmclabkkigiaaaDoor

set_option linter.unusedVariables false
set_option maxRecDepth 20000
namespace Go.Proofs.YtmmclabkkigiaaaDoor
open Go Go.RowKit
set_option linter.unusedSimpArgs false
set_option linter.unusedVariables false

def ones_M (x : Int) : Option (Int) :=
 (some (((bits .and .u64 (shrK .u64 x 1) 6148914691236517205) + (bits .and .u64 x 6148914691236517205)) % 18446744073709551616)).bind fun r3 =>
(some (((bits .and .u64 (shrK .u64 r3 2) 3689348814741910323) + (bits .and .u64 r3 3689348814741910323)) % 18446744073709551616)).bind fun r6 =>
(some (bits .and .u64 (((shrK .u64 r6 4) + r6) % 18446744073709551616) 1085102592571150095)).bind fun r9 =>
(some ((r9 + (shrK .u64 r9 8)) % 18446744073709551616)).bind fun r12 =>
(some ((r12 + (shrK .u64 r12 16)) % 18446744073709551616)).bind fun r15 =>
(some ((r15 + (shrK .u64 r15 32)) % 18446744073709551616)).bind fun r18 =>
need (-9223372036854775808 ≤ r18 ∧ r18 ≤ 9223372036854775807) <|
some (bits .and .i64 r18 127)

theorem ones_walk {x : Int}  {r : Int} (B : Nat) (w : World) (hm : ones_M x = some r) : Spec Tryd.prog 98 #[(.int .u64 x)] B w [] (fun v H' => v = .int .i64 r ∧ H' = []) := by
 refine spec_Q Tryd.func98 rfl fun hs => ?_
 unfold ones_M at hm
 refine W.sr fun K1 hK1 => ?_
 refine zE 1 (hK1 _ _ ?_)
 refine W.sr fun K2 hK2 => ?_
 refine zR 5 ?_
 refine ops_val (v := .int .u64 (IntKind.u64.wrap ((bits .and .u64 (shrK .u64 x 1) 6148914691236517205) + (bits .and .u64 x 6148914691236517205)))) (v' := .int .u64 (((bits .and .u64 (shrK .u64 x 1) 6148914691236517205) + (bits .and .u64 x 6148914691236517205)) % 18446744073709551616)) (by kernel_rfl) (congrArg (Value.int .u64) (wrap_u64_mod _)) ?_
 refine zR 1 ?_
 obtain ⟨r3, h4, hm⟩ := bind_some hm
 replace h4 := some_inj h4
 refine ops_set 0 (v := .int .u64 r3) (Eq.trans (by kernel_rfl) (congrArg (Value.int .u64) h4)) ?_
 refine zD (hK2 _ _ ?_)
 refine W.sr fun K5 hK5 => ?_
 refine zR 5 ?_
 refine ops_val (v := .int .u64 (IntKind.u64.wrap ((bits .and .u64 (shrK .u64 r3 2) 3689348814741910323) + (bits .and .u64 r3 3689348814741910323)))) (v' := .int .u64 (((bits .and .u64 (shrK .u64 r3 2) 3689348814741910323) + (bits .and .u64 r3 3689348814741910323)) % 18446744073709551616)) (by kernel_rfl) (congrArg (Value.int .u64) (wrap_u64_mod _)) ?_
 refine zR 1 ?_
 obtain ⟨r6, h7, hm⟩ := bind_some hm
 replace h7 := some_inj h7
 refine ops_set 0 (v := .int .u64 r6) (Eq.trans (by kernel_rfl) (congrArg (Value.int .u64) h7)) ?_
 refine zD (hK5 _ _ ?_)
 refine W.sr fun K8 hK8 => ?_
 refine zR 3 ?_
 refine ops_val (v := .int .u64 (IntKind.u64.wrap ((shrK .u64 r6 4) + r6))) (v' := .int .u64 (((shrK .u64 r6 4) + r6) % 18446744073709551616)) (by kernel_rfl) (congrArg (Value.int .u64) (wrap_u64_mod _)) ?_
 refine zR 2 ?_
 obtain ⟨r9, h10, hm⟩ := bind_some hm
 replace h10 := some_inj h10
 refine ops_set 0 (v := .int .u64 r9) (Eq.trans (by kernel_rfl) (congrArg (Value.int .u64) h10)) ?_
 refine zD (hK8 _ _ ?_)
 refine W.sr fun K11 hK11 => ?_
 refine zR 3 ?_
 refine ops_val (v := .int .u64 (IntKind.u64.wrap (r9 + (shrK .u64 r9 8)))) (v' := .int .u64 ((r9 + (shrK .u64 r9 8)) % 18446744073709551616)) (by kernel_rfl) (congrArg (Value.int .u64) (wrap_u64_mod _)) ?_
 refine zR 1 ?_
 obtain ⟨r12, h13, hm⟩ := bind_some hm
 replace h13 := some_inj h13
 refine ops_set 0 (v := .int .u64 r12) (Eq.trans (by kernel_rfl) (congrArg (Value.int .u64) h13)) ?_
 refine zD (hK11 _ _ ?_)
 refine W.sr fun K14 hK14 => ?_
 refine zR 3 ?_
 refine ops_val (v := .int .u64 (IntKind.u64.wrap (r12 + (shrK .u64 r12 16)))) (v' := .int .u64 ((r12 + (shrK .u64 r12 16)) % 18446744073709551616)) (by kernel_rfl) (congrArg (Value.int .u64) (wrap_u64_mod _)) ?_
 refine zR 1 ?_
 obtain ⟨r15, h16, hm⟩ := bind_some hm
 replace h16 := some_inj h16
 refine ops_set 0 (v := .int .u64 r15) (Eq.trans (by kernel_rfl) (congrArg (Value.int .u64) h16)) ?_
 refine zD (hK14 _ _ ?_)
 refine W.sr fun K17 hK17 => ?_
 refine zR 3 ?_
 refine ops_val (v := .int .u64 (IntKind.u64.wrap (r15 + (shrK .u64 r15 32)))) (v' := .int .u64 ((r15 + (shrK .u64 r15 32)) % 18446744073709551616)) (by kernel_rfl) (congrArg (Value.int .u64) (wrap_u64_mod _)) ?_
 refine zR 1 ?_
 obtain ⟨r18, h19, hm⟩ := bind_some hm
 replace h19 := some_inj h19
 refine ops_set 0 (v := .int .u64 r18) (Eq.trans (by kernel_rfl) (congrArg (Value.int .u64) h19)) ?_
 refine zD (hK17 _ _ ?_)
 refine W.sr fun K20 hK20 => ?_
 refine zR 1 ?_
 obtain ⟨h21, hm⟩ := need_some hm
 refine zI _ (wrap_i64 h21.1 h21.2) ?_
 refine zE 2 (hK20 _ _ ?_)
 refine W.ret ?_
 obtain rfl := some_inj hm
 refine ret_of (.int .i64 (bits .and .i64 r18 127)) (by kernel_rfl) ⟨_, ⟨rfl, rfl⟩, hs⟩

end Go.Proofs.YtmmclabkkigiaaaDoor

namespace Go.Proofs.YtmmclabkkigiaaaDoor
open Go Go.RowKit

theorem W.roundsA {G GZ : Type} {P : Program} {s : Fs} {w : World} {Q : Exit → Fs → World → Prop} {B : Nat} {w0 : World} {l0 : List Nat} {g : Operand} {ps : Array Tmp} {assign body : Code} {gf : Nat} {lb : Array Value}
    (n : Nat) (F : Nat → G → Prop) (Hs : G → List Asn) (c : Code) (FZ : GZ → Prop) (HsZ : GZ → List Asn) (own : List Asn) (enc : Nat → Array Value) (s0 : Nat → Nat → Fs) (x0 : G) (h0 : F 0 x0)
    (hs : St B w0 l0 w (own ++ Hs x0)) (hr : s.r = none) (hg : evS s g = .func (.func gf) #[] lb) (hf : ∀ args w, (callFunc gf args).run P w = .ok (.enter gf args) w) (hsz : ∀ k, (enc k).size = ps.size)
    (hrel : ∀ (a : Array Value) (k l : Nat), a.size = s.n → (∀ i, a.getD i undef = s.f i) → Rel ⟨(ps.zip (enc k)).foldl (fun tmps (t, a) => tmps.setIfInBounds t a) a, []⟩ (s0 k l) ∧ (s0 k l).r = some l)
    (ar : Nat → Array Value) (har : ∀ l, #[.func (.yield l) #[] #[]] ++ lb = ar l)
    (iter : ∀ (l : Nat) (w1 : World) (Y : Nat → Asn) (Z : Asn), (∀ k, k < n → ∀ w', YSpec P l (enc k) B w' [Y k] (fun v H' => (v = .bool true ∧ H' = [Y (k + 1)]) ∨ (v = .bool false ∧ H' = [Z]))) →
      Spec P gf (ar l) B w1 (own ++ [Y 0]) (fun v H' => v = .tuple #[] ∧ (H' = own ++ [Y n] ∨ H' = own ++ [Z])))
    (round : ∀ (k : Nat), k < n → ∀ (rc : Loop) (l : Nat) (w' : World) (x : G), F k x → ∀ lf, St B w' lf w' (blk l (.loop rc) :: Hs x) → ∀ K : Fs → World → Prop, (∀ s' w1, St B w' lf w1 (blk l (.loop rc) :: Hs x) →
      (∀ w2, St B w' lf w2 (blk l (.loop { rc with state := .busy }) :: Hs x) → W P body s' w2 (rq B w' lf l rc (F (k + 1)) Hs c FZ HsZ)) → K s' w1) → W P assign (s0 k l) w' (seqQ K (fun _ _ _ => False)))
    (done : ∀ D w3 x, F n x → St B w0 l0 w3 (blk D (.deferred (some [])) :: (own ++ Hs x)) → Q .normal (s.mark D) w3)
    (jump : ∀ D w3 z, FZ z → St B w0 l0 w3 (blk D (.deferred (some [])) :: (own ++ HsZ z)) → W P c (s.mark D) w3 Q) : W P (.rangeFunc g ps assign body) s w Q :=
  W.rounds n F Hs c FZ HsZ own enc s0 x0 h0 hs hr hg hf hsz hrel (fun l w1 Y Z hy => by rw [har l]; exact iter l w1 Y Z hy) round done jump
end Go.Proofs.YtmmclabkkigiaaaDoor

set_option linter.unusedVariables false
set_option maxRecDepth 20000
set_option maxHeartbeats 2000000
namespace Go.Proofs.YtmmclabkkigiaaaDoor
open Go Go.RowKit
set_option linter.unusedSimpArgs false
set_option linter.unusedVariables false

def mcount_D19 (p18 : Int) : Option (Int) :=
 some p18

def mcount_R19 (img : List Int) (l : List (Int × Int)) (at_ : Int) (many : Int) (k13 : Nat) (c14 : Int → Option (Int)) (p18 : Int) : Option (Int) :=
 (some (mwordAt img l at_ many k13)).bind fun r53 =>
(ones_M r53).bind fun r64 =>
need (-9223372036854775808 ≤ (p18 + r64) ∧ (p18 + r64) ≤ 9223372036854775807) <|
c14 (p18 + r64)

def mcount_M (img : List Int) (l : List (Int × Int)) (at_ : Int) (many : Int) : Option (Int) :=
 need ((0 ≤ at_ ∧ at_ ≤ 1000000000000) ∧ (1 ≤ many ∧ many ≤ 1000000000000)) <|
rounds (fun k_ c_ s_ => mcount_R19 img l at_ many k_ c_ s_) (fun s_ => mcount_D19 s_) (nWords many) 0 0

theorem mcount_walk {img : List Int} {l : List (Int × Int)} {at_ : Int} {many : Int} {mb vb : Nat} {r : Int} (B : Nat) (w : World) (hmb : w.heap[mb]? = some (.cells [(.pointer (some ⟨vb, 0, none⟩)), (.int .i64 at_), (.int .i64 many)].toArray 136 (0, 0))) (hv : ViewAt (ptr vb) img l w) (hm : mcount_M img l at_ many = some r) : Spec Tryd.prog 86 #[(.pointer (some ⟨mb, 0, none⟩))] B w [] (fun v H' => v = .int .i64 r ∧ H' = []) := by
 refine spec_K Tryd.func86 rfl fun B' hB' hs => ?_
 unfold mcount_M at hm
 refine W.sr fun K1 hK1 => ?_
 refine zN [(.int .i64 0)] 3 hs fun b4 w2 hs3 => ?_
 refine zD (hK1 _ _ ?_)
 refine W.seq fun K5 hK5 => ?_
 refine W.sr fun K6 hK6 => ?_
 refine zR 1 ?_
 refine ops_call0 hs3 (by kernel_rfl) (words_spec (mp := (some ⟨mb, 0, none⟩)) B' _) ?_
 rintro _ _ w8 ⟨b7, rfl, rfl⟩ hs9
 have hs10 := St.ap1 hs9
 refine zD (hK6 _ _ ?_)
 refine W.block ?_
 obtain ⟨h11, hm⟩ := need_some hm
 refine W.norm (n := 14) (l := [(2, (.pointer (some ⟨b4, 0, none⟩))), (6, (.func (.func 102) #[] #[(.pointer (some ⟨b7, 0, none⟩))]))]) (by kernel_rfl) (fun us12 => ?_)
 have hs15 := St.f1 hs10
 have hs16 := St.f1 hs15
 have hs17 := St.f2 hs16
 have hs24 := hs17.keep2
 have hs25 := St.f3 hs24
 have hs26 := St.f2 hs25
 have hs27 := St.f3 hs26
 have hs28 := St.f3 hs27
 have hF29 : rounds (fun k_ c_ s_ => mcount_R19 img l at_ many k_ c_ s_) (fun s_ => mcount_D19 s_) ((nWords many) - 0) 0 0 = some r := by rw [Nat.sub_zero]; exact hm
 clear hm
 refine W.roundsA (G := Int) (GZ := Unit) (gf := 102) (lb := #[(.pointer (some ⟨b7, 0, none⟩))]) (nWords many) (fun k_ p18 => rounds (fun k_ c_ s_ => mcount_R19 img l at_ many k_ c_ s_) (fun s_ => mcount_D19 s_) ((nWords many) - k_) k_ p18 = some r) (fun p18 => [keepA w, blk b4 (.cells [(.int .i64 p18)].toArray 3 (0, 0))]) .ret (fun (_ : Unit) => False) (fun _ => []) [keepA w, blk b7 (.cells [(.pointer (some ⟨mb, 0, none⟩))].toArray 108 (0, 0))] (fun k_ => #[(.int .i64 (64 * (k_ : Int))), (.int .u64 (mwordAt img l at_ many k_))]) (fun k_ l_ => slotsD 14 ((8, (.int .u64 (mwordAt img l at_ many k_))) :: (7, (.int .i64 (64 * (k_ : Int)))) :: [(2, (.pointer (some ⟨b4, 0, none⟩))), (6, (.func (.func 102) #[] #[(.pointer (some ⟨b7, 0, none⟩))]))]) us12 (some l_) []) 0 hF29 hs28 rfl (by kernel_rfl) (fun _ _ => by kernel_rfl) (fun _ => rfl) (fun a_ k_ l_ h1_ h2_ => ⟨rel_round2 (n := 14) (by decide) (by decide) h1_ h2_, rfl⟩) (fun l_ => #[.func (.yield l_) #[] #[], (.pointer (some ⟨b7, 0, none⟩))]) (fun _ => rfl) (fun l_ w_ Y_ Z_ hy_ => words1_spec (yl := l_) (w00 := w) (Y := Y_) (Z := Z_) (hM := h11) (hmb := hmb) (hv := hv) (hy := fun k_ h_ w_ => hy_ k_ (by unfold nWords; omega) w_) _ w_) ?_ ?_ ?_
 rotate_left
 ·
  rintro D23 w30 p18 hF32 hs31
  replace hF32 : rounds (fun k_ c_ s_ => mcount_R19 img l at_ many k_ c_ s_) (fun s_ => mcount_D19 s_) ((nWords many) - (nWords many)) (nWords many) p18 = some r := hF32
  rw [rounds_end] at hF32
  have hm : mcount_D19 p18 = some r := hF32
  clear hF32
  unfold mcount_D19 at hm
  have hs33 : St B' w [] w30 [blk D23 (.deferred (some [])), keepA w, blk b7 (.cells [(.pointer (some ⟨mb, 0, none⟩))].toArray 108 (0, 0)), keepA w, blk b4 (.cells [(.int .i64 p18)].toArray 3 (0, 0))] := hs31
  refine normal_block ?_
  refine hK5 _ _ ?_
  refine W.sr fun K34 hK34 => ?_
  refine zL ⟨b4, 0, none⟩ (.int .i64 p18) (hs33.cellAt 4 rfl rfl) ?_
  have hs37 := St.f4 hs33
  refine ops_store (off := 0) (cs := [(.int .i64 p18)]) (vs := [(.int .i64 p18)]) hs37 (by kernel_rfl) (by simp) rfl (fun w35 hs36 => ?_)
  have hs38 : St B' w [] w35 [blk b4 (.cells [(.int .i64 p18)].toArray 3 (0, 0)), blk D23 (.deferred (some [])), keepA w, blk b7 (.cells [(.pointer (some ⟨mb, 0, none⟩))].toArray 108 (0, 0)), keepA w] := hs36
  refine zD (hK34 _ _ ?_)
  refine W.ret ?_
  obtain rfl := some_inj hm
  have hs39 := St.f2 hs38
  have hs40 := St.f3 hs39
  have hs41 := St.f1 hs40
  have hs42 := St.f2 hs41
  have hs43 := St.f3 hs42
  refine leave_mark (D := D23) (v := (.int .i64 p18)) hs43 (by kernel_rfl) (fun w44 hs45 => (resD_one rfl (.cell (ad := ⟨b4, 0, none⟩) (by kernel_rfl) (by kernel_rfl) (hs45.cellAt 0 rfl rfl)))) (fun w44 hs45 => ?_)
  have hs46 := St.tk0 hs45
  exact ⟨rfl, hs46⟩
 ·
  rintro _ _ _ h_ _
  exact h_.elim
 ·
  rintro k13 hk47 rc21 l20 w48 p18 hF52 lf49 hs50 K51 hK51
  replace hF52 : rounds (fun k_ c_ s_ => mcount_R19 img l at_ many k_ c_ s_) (fun s_ => mcount_D19 s_) ((nWords many) - k13) k13 p18 = some r := hF52
  rw [rounds_at hk47] at hF52
  obtain ⟨c14, hc14⟩ : ∃ c_, c_ = rounds (fun k_ c_ s_ => mcount_R19 img l at_ many k_ c_ s_) (fun s_ => mcount_D19 s_) ((nWords many) - (k13 + 1)) (k13 + 1) := ⟨_, rfl⟩
  rw [← hc14] at hF52
  have hm : mcount_R19 img l at_ many k13 c14 p18 = some r := hF52
  clear hF52
  unfold mcount_R19 at hm
  refine W.region ?_
  refine zR 1 ?_
  obtain ⟨r53, h54, hm⟩ := bind_some hm
  replace h54 := some_inj h54
  refine ops_set 4 (v := .int .u64 r53) (Eq.trans (by kernel_rfl) (congrArg (Value.int .u64) h54)) ?_
  refine zD ?_
  refine hK51 _ _ hs50 (fun w55 hs56 => ?_)
  refine W.block ?_
  have hs57 := hs56.drew
  have hs58 := St.f1 hs57
  have hs59 := St.f1 hs58
  have hs60 := St.tk2 hs59
  refine W.regionD [(0, 0), (0, 0), (2, 2), (5, 5), (15, 8)] (fun w_ => St B' w48 lf49 w_ [blk l20 (.loop { rc21 with state := .busy }), keepA w]) (by kernel_rfl) hs60 ?_
  refine any_val (v := (.int .u64 r53)) (v' := (.int .u64 r53)) 1 (by kernel_rfl) (fun _ => by kernel_rfl) rfl hs60 ?_
  refine any_step2 0 2 (by kernel_rfl) (by kernel_rfl) (by kernel_rfl) ?_ ?_
  ·
   refine zL ⟨b4, 0, none⟩ (.int .i64 p18) (hs57.cellAt 2 rfl rfl) ?_
   have hs61 := St.f1 hs57
   have hs62 := St.f1 hs61
   have hs63 := St.tk2 hs62
   refine ops_done (by kernel_rfl) ⟨hs63, ?_⟩
   refine any_step 2 (by kernel_rfl) (by kernel_rfl) ?_
   obtain ⟨r64, h65, hm⟩ := bind_some hm
   refine zC00 hs57 (ones_walk (hm := h65) B' _) fun w66 hs68 => ?_
   have hs69 := St.f1 hs68
   have hs70 := St.f1 hs69
   have hs71 := St.tk2 hs70
   refine ops_done (by kernel_rfl) ⟨hs71, ?_⟩
   obtain ⟨h72, hm⟩ := need_some hm
   refine any_val (v := .int .i64 (IntKind.i64.wrap (p18 + r64))) (v' := .int .i64 (p18 + r64)) 3 (by kernel_rfl) (fun _ => by kernel_rfl) (congrArg (Value.int .i64) (wrap_i64 h72.1 h72.2)) hs71 ?_
   refine any_step 4 (by kernel_rfl) (by kernel_rfl) ?_
   have hs75 := St.f2 hs68
   refine ops_store (off := 0) (cs := [(.int .i64 p18)]) (vs := [(.int .i64 (p18 + r64))]) hs75 (by kernel_rfl) (by simp) rfl (fun w73 hs74 => ?_)
   have hs76 : St B' w48 lf49 w73 [blk b4 (.cells [(.int .i64 (p18 + r64))].toArray 3 (0, 0)), blk l20 (.loop { rc21 with state := .busy }), keepA w] := hs74
   have hs77 := St.f2 hs76
   have hs78 := St.f2 hs77
   have hs79 := St.tk2 hs78
   refine ops_done (by kernel_rfl) ⟨hs79, ?_⟩
   refine any_done (by kernel_rfl) ?_
   refine normal_block ?_
   have hs80 := St.f2 hs76
   have hs81 := St.f2 hs80
   rw [hc14] at hm
   exact ⟨(p18 + r64), hm, hs81⟩
  ·
   obtain ⟨r82, h83, hm⟩ := bind_some hm
   refine zC00 hs57 (ones_walk (hm := h83) B' _) fun w84 hs86 => ?_
   have hs87 := St.f1 hs86
   have hs88 := St.f1 hs87
   have hs89 := St.tk2 hs88
   refine ops_done (by kernel_rfl) ⟨hs89, ?_⟩
   refine any_step 0 (by kernel_rfl) (by kernel_rfl) ?_
   refine zL ⟨b4, 0, none⟩ (.int .i64 p18) (hs86.cellAt 2 rfl rfl) ?_
   have hs90 := St.f1 hs86
   have hs91 := St.f1 hs90
   have hs92 := St.tk2 hs91
   refine ops_done (by kernel_rfl) ⟨hs92, ?_⟩
   obtain ⟨h93, hm⟩ := need_some hm
   refine any_val (v := .int .i64 (IntKind.i64.wrap (p18 + r82))) (v' := .int .i64 (p18 + r82)) 3 (by kernel_rfl) (fun _ => by kernel_rfl) (congrArg (Value.int .i64) (wrap_i64 h93.1 h93.2)) hs92 ?_
   refine any_step 4 (by kernel_rfl) (by kernel_rfl) ?_
   have hs96 := St.f2 hs86
   refine ops_store (off := 0) (cs := [(.int .i64 p18)]) (vs := [(.int .i64 (p18 + r82))]) hs96 (by kernel_rfl) (by simp) rfl (fun w94 hs95 => ?_)
   have hs97 : St B' w48 lf49 w94 [blk b4 (.cells [(.int .i64 (p18 + r82))].toArray 3 (0, 0)), blk l20 (.loop { rc21 with state := .busy }), keepA w] := hs95
   have hs98 := St.f2 hs97
   have hs99 := St.f2 hs98
   have hs100 := St.tk2 hs99
   refine ops_done (by kernel_rfl) ⟨hs100, ?_⟩
   refine any_done (by kernel_rfl) ?_
   refine normal_block ?_
   have hs101 := St.f2 hs97
   have hs102 := St.f2 hs101
   rw [hc14] at hm
   exact ⟨(p18 + r82), hm, hs102⟩

end Go.Proofs.YtmmclabkkigiaaaDoor

set_option maxRecDepth 20000
namespace Go.Proofs.YtmmclabkkigiaaaDoor
open Go Go.RowKit
set_option linter.unusedSimpArgs false
set_option linter.unusedVariables false

theorem tz64_spec {x : Int} (B : Nat) (w : World) (hx : 0 ≤ x ∧ x < 18446744073709551616) (hT : CellsAt (some ⟨0, 0, none⟩) tab8 w) : Spec Tryd.prog 103 #[(.int .u64 x)] B w [] (fun v H' => v = .int .i64 (Lib.ctz 64 x.toNat : Int) ∧ H' = []) := by
 refine spec_Q Tryd.func103 rfl fun hs => ?_
 refine W.sr fun K1 hK1 => ?_
 refine zE 1 (hK1 _ _ ?_)
 refine W.seq fun K2 hK2 => ?_
 refine W.sr fun K3 hK3 => ?_
 refine zE 2 (hK3 _ _ ?_)
 refine W.cond (decide (x = 0)) (by kernel_rfl) (fun h4 => ?_) (fun h4 => ?_)
 ·
  have h4p := of_decide_eq_true h4
  refine W.sr fun K5 hK5 => ?_
  refine zE 1 (hK5 _ _ ?_)
  refine W.ret (ret_seq ?_)
  have e_ : x = 0 := by omega
  subst e_
  refine ret_of (.int .i64 64) (by kernel_rfl) ⟨_, ⟨rfl, rfl⟩, hs⟩
 ·
  have h4p := of_decide_eq_false h4
  refine W.skip ?_
  refine hK2 _ _ ?_
  refine W.sr fun K6 hK6 => ?_
  refine zR 4 ?_
  obtain ⟨y, hy⟩ : ∃ y, bits .and .u64 x (IntKind.u64.wrap (0 - x)) = y := ⟨_, rfl⟩
  refine ops_set 8 (v := .int .u64 y) (Eq.trans (by kernel_rfl) (congrArg (Value.int .u64) hy)) ?_
  refine ops_val (v := .int .u64 (IntKind.u64.wrap (y * 285870213051353865))) (v' := .int .u64 ((y * 285870213051353865) % 18446744073709551616)) (by kernel_rfl) (congrArg (Value.int .u64) (wrap_u64_mod _)) ?_
  refine zR 1 ?_
  have h7 : ¬ (x = 0) := by omega
  obtain ⟨k, hk, hz, hc⟩ := tz_at hx h7 hy
  refine ops_R (runs_indexA (ad := ⟨0, 0, none⟩) (n := 64) (z := (shrK .u64 ((y * 285870213051353865) % 18446744073709551616) 58)) (size := 1) k hz hk (by kernel_rfl)) ?_
  have hl : w.cell? (Addr.add ⟨0, 0, none⟩ (k * 1)) = some (.int .u8 (Lib.ctz 64 x.toNat : Int)) := by rw [Nat.mul_one]; exact hT k _ hc
  refine zL (Addr.add ⟨0, 0, none⟩ (k * 1)) (.int .u8 (Lib.ctz 64 x.toNat : Int)) hl ?_
  have hc9 := ctz_le hx h7
  have h8 : -9223372036854775808 ≤ (Lib.ctz 64 x.toNat : Int) ∧ (Lib.ctz 64 x.toNat : Int) ≤ 9223372036854775807 := by omega
  refine zI _ (wrap_i64 h8.1 h8.2) ?_
  refine zE 1 (hK6 _ _ ?_)
  refine W.ret ?_
  refine ret_of (.int .i64 (Lib.ctz 64 x.toNat : Int)) (by kernel_rfl) ⟨_, ⟨rfl, rfl⟩, hs⟩

end Go.Proofs.YtmmclabkkigiaaaDoor

set_option linter.unusedVariables false
set_option maxRecDepth 20000
set_option maxHeartbeats 2000000
namespace Go.Proofs.YtmmclabkkigiaaaDoor
open Go Go.RowKit
set_option linter.unusedSimpArgs false
set_option linter.unusedVariables false

def mclear_D26  : Option (Int × Bool) :=
 some (0, false)

def mclear_X26 (p27 : Int) : Option (Int × Bool) :=
 some (p27, true)

def mclear_J4 (c20 : Unit → Option (Int × Bool)) (r87 : Int) (p89 : Bool) : Option (Int × Bool) :=
 if p89 = true then (mclear_X26 r87) else (c20 ())

def mclear_R26 (img : List Int) (l : List (Int × Int)) (at_ : Int) (many : Int) (k19 : Nat) (c20 : Unit → Option (Int × Bool)) : Option (Int × Bool) :=
 (some (mwordAt img l at_ many k19)).bind fun r77 =>
need (0 ≤ (bits .xor .u64 18446744073709551615 r77) ∧ (bits .xor .u64 18446744073709551615 r77) < 18446744073709551616) <|
need (-9223372036854775808 ≤ ((64 * (k19 : Int)) + (Lib.ctz 64 (bits .xor .u64 18446744073709551615 r77).toNat : Int)) ∧ ((64 * (k19 : Int)) + (Lib.ctz 64 (bits .xor .u64 18446744073709551615 r77).toNat : Int)) ≤ 9223372036854775807) <|
(some ((64 * (k19 : Int)) + (Lib.ctz 64 (bits .xor .u64 18446744073709551615 r77).toNat : Int))).bind fun r87 =>
need (-9223372036854775808 ≤ ((64 * (k19 : Int)) + 64) ∧ ((64 * (k19 : Int)) + 64) ≤ 9223372036854775807) <|
if r87 < ((64 * (k19 : Int)) + 64) then (mclear_J4 c20 r87 (decide (r87 < many))) else (mclear_J4 c20 r87 false)

def mclear_M (img : List Int) (l : List (Int × Int)) (at_ : Int) (many : Int) : Option (Int × Bool) :=
 need ((0 ≤ at_ ∧ at_ ≤ 1000000000000) ∧ (1 ≤ many ∧ many ≤ 1000000000000)) <|
rounds (fun k_ c_ s_ => mclear_R26 img l at_ many k_ c_) (fun s_ => mclear_D26) (nWords many) 0 ()

theorem mclear_walk {img : List Int} {l : List (Int × Int)} {at_ : Int} {many : Int} {mb vb : Nat} {r : Int × Bool} (B : Nat) (w : World) (hmb : w.heap[mb]? = some (.cells [(.pointer (some ⟨vb, 0, none⟩)), (.int .i64 at_), (.int .i64 many)].toArray 136 (0, 0))) (hv : ViewAt (ptr vb) img l w) (hT : CellsAt (some ⟨0, 0, none⟩) tab8 w) (hm : mclear_M img l at_ many = some r) : Spec Tryd.prog 99 #[(.pointer (some ⟨mb, 0, none⟩))] B w [] (fun v H' => v = .tuple #[.int .i64 r.1, .bool r.2] ∧ H' = []) := by
 refine spec_K Tryd.func99 rfl fun B' hB' hs => ?_
 unfold mclear_M at hm
 refine W.sr fun K1 hK1 => ?_
 refine zN [(.pointer (some ⟨mb, 0, none⟩))] 108 hs fun b4 w2 hs3 => ?_
 refine zN [(.int .i64 0)] 3 hs3 fun b7 w5 hs6 => ?_
 refine zN [(.bool false)] 4 hs6 fun b10 w8 hs9 => ?_
 refine zD (hK1 _ _ ?_)
 refine W.seq fun K11 hK11 => ?_
 refine W.sr fun K12 hK12 => ?_
 refine zL ⟨b4, 0, none⟩ (.pointer (some ⟨mb, 0, none⟩)) (hs9.cellAt 2 rfl rfl) ?_
 refine ops_call0 hs9 (by kernel_rfl) (words_spec (mp := (some ⟨mb, 0, none⟩)) B' _) ?_
 rintro _ _ w14 ⟨b13, rfl, rfl⟩ hs15
 have hs16 := St.ap1 hs15
 refine zD (hK12 _ _ ?_)
 refine W.block ?_
 obtain ⟨h17, hm⟩ := need_some hm
 refine W.norm (n := 29) (l := [(1, (.pointer (some ⟨b4, 0, none⟩))), (2, (.pointer (some ⟨b7, 0, none⟩))), (3, (.pointer (some ⟨b10, 0, none⟩))), (8, (.func (.func 102) #[] #[(.pointer (some ⟨b13, 0, none⟩))]))]) (by kernel_rfl) (fun us18 => ?_)
 have hs21 := St.f3 hs16
 have hs22 := St.f3 hs21
 have hs23 := St.f3 hs22
 have hs24 := St.f3 hs23
 have hs25 := St.f4 hs24
 have hs32 := hs25.keep2
 have hs33 := St.f5 hs32
 have hs34 := St.f5 hs33
 have hs35 := St.f5 hs34
 have hs36 := St.f4 hs35
 have hs37 := St.f5 hs36
 have hs38 := St.f5 hs37
 have hF39 : rounds (fun k_ c_ s_ => mclear_R26 img l at_ many k_ c_) (fun s_ => mclear_D26) ((nWords many) - 0) 0 () = some r := by rw [Nat.sub_zero]; exact hm
 clear hm
 refine W.roundsA (G := Unit) (GZ := Int) (gf := 102) (lb := #[(.pointer (some ⟨b13, 0, none⟩))]) (nWords many) (fun k_ _ => rounds (fun k_ c_ s_ => mclear_R26 img l at_ many k_ c_) (fun s_ => mclear_D26) ((nWords many) - k_) k_ () = some r) (fun _ => [keepA w, blk b10 (.cells [(.bool false)].toArray 4 (0, 0)), blk b7 (.cells [(.int .i64 0)].toArray 3 (0, 0)), blk b4 (.cells [(.pointer (some ⟨mb, 0, none⟩))].toArray 108 (0, 0))]) .ret (fun p27 => mclear_X26 p27 = some r) (fun p27 => [keepA w, blk b10 (.cells [(.bool true)].toArray 4 (0, 0)), blk b7 (.cells [(.int .i64 p27)].toArray 3 (0, 0)), blk b4 (.cells [(.pointer (some ⟨mb, 0, none⟩))].toArray 108 (0, 0))]) [keepA w, blk b13 (.cells [(.pointer (some ⟨mb, 0, none⟩))].toArray 108 (0, 0))] (fun k_ => #[(.int .i64 (64 * (k_ : Int))), (.int .u64 (mwordAt img l at_ many k_))]) (fun k_ l_ => slotsD 29 ((10, (.int .u64 (mwordAt img l at_ many k_))) :: (9, (.int .i64 (64 * (k_ : Int)))) :: [(1, (.pointer (some ⟨b4, 0, none⟩))), (2, (.pointer (some ⟨b7, 0, none⟩))), (3, (.pointer (some ⟨b10, 0, none⟩))), (8, (.func (.func 102) #[] #[(.pointer (some ⟨b13, 0, none⟩))]))]) us18 (some l_) []) () hF39 hs38 rfl (by kernel_rfl) (fun _ _ => by kernel_rfl) (fun _ => rfl) (fun a_ k_ l_ h1_ h2_ => ⟨rel_round2 (n := 29) (by decide) (by decide) h1_ h2_, rfl⟩) (fun l_ => #[.func (.yield l_) #[] #[], (.pointer (some ⟨b13, 0, none⟩))]) (fun _ => rfl) (fun l_ w_ Y_ Z_ hy_ => words1_spec (yl := l_) (w00 := w) (Y := Y_) (Z := Z_) (hM := h17) (hmb := hmb) (hv := hv) (hy := fun k_ h_ w_ => hy_ k_ (by unfold nWords; omega) w_) _ w_) ?_ ?_ ?_
 rotate_left
 ·
  rintro D31 w40 _ hF42 hs41
  replace hF42 : rounds (fun k_ c_ s_ => mclear_R26 img l at_ many k_ c_) (fun s_ => mclear_D26) ((nWords many) - (nWords many)) (nWords many) () = some r := hF42
  rw [rounds_end] at hF42
  have hm : mclear_D26 = some r := hF42
  clear hF42
  unfold mclear_D26 at hm
  have hs43 : St B' w [] w40 [blk D31 (.deferred (some [])), keepA w, blk b13 (.cells [(.pointer (some ⟨mb, 0, none⟩))].toArray 108 (0, 0)), keepA w, blk b10 (.cells [(.bool false)].toArray 4 (0, 0)), blk b7 (.cells [(.int .i64 0)].toArray 3 (0, 0)), blk b4 (.cells [(.pointer (some ⟨mb, 0, none⟩))].toArray 108 (0, 0))] := hs41
  refine normal_block ?_
  refine hK11 _ _ ?_
  refine W.sr fun K44 hK44 => ?_
  have hs47 := St.f5 hs43
  refine ops_store (off := 0) (cs := [(.int .i64 0)]) (vs := [(.int .i64 0)]) hs47 (by kernel_rfl) (by simp) rfl (fun w45 hs46 => ?_)
  have hs48 : St B' w [] w45 [blk b7 (.cells [(.int .i64 0)].toArray 3 (0, 0)), blk D31 (.deferred (some [])), keepA w, blk b13 (.cells [(.pointer (some ⟨mb, 0, none⟩))].toArray 108 (0, 0)), keepA w, blk b10 (.cells [(.bool false)].toArray 4 (0, 0)), blk b4 (.cells [(.pointer (some ⟨mb, 0, none⟩))].toArray 108 (0, 0))] := hs46
  have hs51 := St.f5 hs48
  refine ops_store (off := 0) (cs := [(.bool false)]) (vs := [(.bool false)]) hs51 (by kernel_rfl) (by simp) rfl (fun w49 hs50 => ?_)
  have hs52 : St B' w [] w49 [blk b10 (.cells [(.bool false)].toArray 4 (0, 0)), blk b7 (.cells [(.int .i64 0)].toArray 3 (0, 0)), blk D31 (.deferred (some [])), keepA w, blk b13 (.cells [(.pointer (some ⟨mb, 0, none⟩))].toArray 108 (0, 0)), keepA w, blk b4 (.cells [(.pointer (some ⟨mb, 0, none⟩))].toArray 108 (0, 0))] := hs50
  refine zD (hK44 _ _ ?_)
  refine W.ret ?_
  obtain rfl := some_inj hm
  have hs53 := St.f6 hs52
  have hs54 := St.f4 hs53
  have hs55 := St.f5 hs54
  have hs56 := St.f1 hs55
  have hs57 := St.f4 hs56
  have hs58 := St.f4 hs57
  have hs59 := St.f5 hs58
  refine leave_mark (D := D31) (v := (.tuple #[(.int .i64 0), (.bool false)])) hs59 (by kernel_rfl) (fun w60 hs61 => (resD_two rfl (.cell (ad := ⟨b7, 0, none⟩) (by kernel_rfl) (by kernel_rfl) (hs61.cellAt 1 rfl rfl)) (.cell (ad := ⟨b10, 0, none⟩) (by kernel_rfl) (by kernel_rfl) (hs61.cellAt 0 rfl rfl)))) (fun w60 hs61 => ?_)
  have hs62 := St.tk0 hs61
  exact ⟨rfl, hs62⟩
 ·
  rintro D65 w63 p27 hm hs64
  replace hm : mclear_X26 p27 = some r := hm
  unfold mclear_X26 at hm
  have hs66 : St B' w [] w63 [blk D65 (.deferred (some [])), keepA w, blk b13 (.cells [(.pointer (some ⟨mb, 0, none⟩))].toArray 108 (0, 0)), keepA w, blk b10 (.cells [(.bool true)].toArray 4 (0, 0)), blk b7 (.cells [(.int .i64 p27)].toArray 3 (0, 0)), blk b4 (.cells [(.pointer (some ⟨mb, 0, none⟩))].toArray 108 (0, 0))] := hs64
  refine W.ret (ret_block (ret_seq ?_))
  obtain rfl := some_inj hm
  refine leave_mark (D := D65) (v := (.tuple #[(.int .i64 p27), (.bool true)])) hs66 (by kernel_rfl) (fun w67 hs68 => (resD_two rfl (.cell (ad := ⟨b7, 0, none⟩) (by kernel_rfl) (by kernel_rfl) (hs68.cellAt 4 rfl rfl)) (.cell (ad := ⟨b10, 0, none⟩) (by kernel_rfl) (by kernel_rfl) (hs68.cellAt 3 rfl rfl)))) (fun w67 hs68 => ?_)
  have hs69 := St.tk0 hs68
  exact ⟨rfl, hs69⟩
 ·
  rintro k19 hk70 rc29 l28 w71 _ hF75 lf72 hs73 K74 hK74
  replace hF75 : rounds (fun k_ c_ s_ => mclear_R26 img l at_ many k_ c_) (fun s_ => mclear_D26) ((nWords many) - k19) k19 () = some r := hF75
  rw [rounds_at hk70] at hF75
  obtain ⟨c20, hc20⟩ : ∃ c_, c_ = rounds (fun k_ c_ s_ => mclear_R26 img l at_ many k_ c_) (fun s_ => mclear_D26) ((nWords many) - (k19 + 1)) (k19 + 1) := ⟨_, rfl⟩
  rw [← hc20] at hF75
  have hm : mclear_R26 img l at_ many k19 c20 = some r := hF75
  clear hF75
  unfold mclear_R26 at hm
  refine W.sr fun K76 hK76 => ?_
  refine zE 1 (hK76 _ _ ?_)
  refine W.region ?_
  refine zR 1 ?_
  obtain ⟨r77, h78, hm⟩ := bind_some hm
  replace h78 := some_inj h78
  refine ops_set 5 (v := .int .u64 r77) (Eq.trans (by kernel_rfl) (congrArg (Value.int .u64) h78)) ?_
  refine zD ?_
  refine hK74 _ _ hs73 (fun w79 hs80 => ?_)
  refine W.block ?_
  refine W.sr fun K81 hK81 => ?_
  refine zR 3 ?_
  obtain ⟨h82, hm⟩ := need_some hm
  refine zC00 hs80 (tz64_spec (x := (bits .xor .u64 18446744073709551615 r77)) (hx := h82) (hT := ((St.kept hs80 1 rfl).cells hT)) B' _) fun w83 hs85 => ?_
  obtain ⟨h86, hm⟩ := need_some hm
  refine zI _ (wrap_i64 h86.1 h86.2) ?_
  refine zR 1 ?_
  obtain ⟨r87, h88, hm⟩ := bind_some hm
  replace h88 := some_inj h88
  refine ops_set 6 (v := .int .i64 r87) (Eq.trans (by kernel_rfl) (congrArg (Value.int .i64) h88)) ?_
  refine zD (hK81 _ _ ?_)
  refine W.seq_join (fun s_ w_ => ∃ (p89 : Bool), (∃ us, s_ = slotsD 29 [(2, (.pointer (some ⟨b7, 0, none⟩))), (3, (.pointer (some ⟨b10, 0, none⟩))), (6, (.int .i64 r87)), (27, (.bool p89))] us (some l28) []) ∧ St B' w71 lf72 w_ [blk b7 (.cells [(.int .i64 0)].toArray 3 (0, 0)), blk b10 (.cells [(.bool false)].toArray 4 (0, 0)), blk l28 (.loop { rc29 with state := .busy }), keepA w, blk b4 (.cells [(.pointer (some ⟨mb, 0, none⟩))].toArray 108 (0, 0))] ∧ mclear_J4 c20 r87 p89 = some r) ?_ ?_
  ·
   rintro _ w90 ⟨p89, ⟨us, rfl⟩, hs91, hm⟩
   unfold mclear_J4 at hm
   refine W.cond p89 (by kernel_rfl) (fun h92 => ?_) (fun h92 => ?_)
   ·
    have h92p : p89 = true := h92
    replace hm := ite_yes hm h92p
    refine W.sr fun K93 hK93 => ?_
    refine zR 1 ?_
    refine ops_store (off := 0) (cs := [(.int .i64 0)]) (vs := [(.int .i64 r87)]) hs91 (by kernel_rfl) (by simp) rfl (fun w94 hs95 => ?_)
    have hs96 : St B' w71 lf72 w94 [blk b7 (.cells [(.int .i64 r87)].toArray 3 (0, 0)), blk b10 (.cells [(.bool false)].toArray 4 (0, 0)), blk l28 (.loop { rc29 with state := .busy }), keepA w, blk b4 (.cells [(.pointer (some ⟨mb, 0, none⟩))].toArray 108 (0, 0))] := hs95
    have hs99 := St.f1 hs96
    refine ops_store (off := 0) (cs := [(.bool false)]) (vs := [(.bool true)]) hs99 (by kernel_rfl) (by simp) rfl (fun w97 hs98 => ?_)
    have hs100 : St B' w71 lf72 w97 [blk b10 (.cells [(.bool true)].toArray 4 (0, 0)), blk b7 (.cells [(.int .i64 r87)].toArray 3 (0, 0)), blk l28 (.loop { rc29 with state := .busy }), keepA w, blk b4 (.cells [(.pointer (some ⟨mb, 0, none⟩))].toArray 108 (0, 0))] := hs98
    refine zD (hK93 _ _ ?_)
    refine W.ret (ret_block ?_)
    have hs101 := St.f4 hs100
    have hs102 := St.f2 hs101
    have hs103 := St.f2 hs102
    have hs104 := St.f4 hs103
    have hs105 := St.f4 hs104
    exact ⟨rfl, r87, hm, hs105⟩
   ·
    have h92p : ¬ (p89 = true) := ne_true_of_eq_false h92
    replace hm := ite_no hm h92p
    refine W.skip ?_
    refine normal_block ?_
    have hs106 := St.f4 hs91
    have hs107 := St.f1 hs106
    have hs108 := St.f2 hs107
    have hs109 := St.f4 hs108
    have hs110 := St.f4 hs109
    rw [hc20] at hm
    exact ⟨(), hm, hs110⟩
  ·
   refine W.region ?_
   refine zR 2 ?_
   obtain ⟨h111, hm⟩ := need_some hm
   refine zI _ (wrap_i64 h111.1 h111.2) ?_
   refine zR 2 ?_
   rcases Bool.eq_false_or_eq_true (decide (r87 < ((64 * (k19 : Int)) + 64))) with h112 | h112
   ·
    obtain ⟨h112p, hm⟩ := iY hm h112
    refine zS 20 h112 ?_
    refine zS 19 h112 ?_
    refine zR 1 ?_
    refine zL ⟨b4, 0, none⟩ (.pointer (some ⟨mb, 0, none⟩)) (hs85.cellAt 4 rfl rfl) ?_
    refine zR 2 ?_
    refine zL ⟨mb, 2, none⟩ (.int .i64 many) (cell_of_blk ((St.kept hs85 1 rfl).blk hmb) rfl) ?_
    refine zE 2 ?_
    have hs113 := St.f4 hs85
    have hs114 := St.f2 hs113
    have hs115 := St.f2 hs114
    have hs116 := St.f3 hs115
    have hs117 := St.f4 hs116
    exact ⟨(decide (r87 < many)), slotsD_intro _ (by kernel_rfl), hs117, hm⟩
   ·
    obtain ⟨h112p, hm⟩ := iN hm h112
    refine zS 20 h112 ?_
    refine zS 19 h112 ?_
    refine zE 7 ?_
    have hs118 := St.f4 hs85
    have hs119 := St.f2 hs118
    have hs120 := St.f2 hs119
    have hs121 := St.f3 hs120
    have hs122 := St.f4 hs121
    exact ⟨false, slotsD_intro _ (by kernel_rfl), hs122, hm⟩

end Go.Proofs.YtmmclabkkigiaaaDoor

set_option linter.unusedVariables false
set_option maxRecDepth 20000
namespace Go.Proofs.YtmmclabkkigiaaaDoor
open Go Go.RowKit
set_option linter.unusedSimpArgs false
set_option linter.unusedVariables false

def mget_M (img : List Int) (l : List (Int × Int)) (at_ : Int) (many : Int) (i_ : Int) : Option (Bool) :=
 if 0 ≤ i_ ∧ i_ < many then (need (0 ≤ i_ ∧ i_ ≤ 1000000000000 ∧ 0 ≤ at_ ∧ at_ ≤ 1000000000000) <|
some (!decide ((bits .and .u64 (vget img l (at_ + i_ / 64)) (2 ^ (i_ % 64).toNat)) = 0))) else (some false)

theorem mget_walk {img : List Int} {l : List (Int × Int)} {at_ : Int} {many : Int} {i_ : Int} {mb vb : Nat} {r : Bool} (B : Nat) (w : World) (hmb : w.heap[mb]? = some (.cells [(.pointer (some ⟨vb, 0, none⟩)), (.int .i64 at_), (.int .i64 many)].toArray 136 (0, 0))) (hv : ViewAt (ptr vb) img l w) (hm : mget_M img l at_ many i_ = some r) : Spec Tryd.prog 62 #[(.pointer (some ⟨mb, 0, none⟩)), (.int .i64 i_)] B w [] (fun v H' => v = .bool r ∧ H' = []) := by
 refine spec_Q Tryd.func62 rfl fun hs => ?_
 unfold mget_M at hm
 refine W.sr fun K1 hK1 => ?_
 refine zE 1 (hK1 _ _ ?_)
 refine W.seq fun K2 hK2 => ?_
 refine W.sr fun K3 hK3 => ?_
 refine zR 2 ?_
 refine zC00 hs (mhas_spec (i_ := i_) (hmb := (hs.old hmb)) (hv := (viewAt_old hs hv)) B _) fun w4 hs6 => ?_
 refine zE 1 (hK3 _ _ ?_)
 refine W.cond (!(decide (0 ≤ i_ ∧ i_ < many))) (by kernel_rfl) (fun h7 => ?_) (fun h7 => ?_)
 rotate_left
 ·
  have h7p : 0 ≤ i_ ∧ i_ < many := of_decide_eq_true (bnot_false h7)
  replace hm := ite_yes hm h7p
  refine W.skip ?_
  refine hK2 _ _ ?_
  refine W.sr fun K8 hK8 => ?_
  refine zR 2 ?_
  obtain ⟨h9, hm⟩ := need_some hm
  refine zC00 hs6 (mword_spec (i_ := i_) (hq := h9) (hmb := (hs6.old hmb)) (hv := (viewAt_old hs6 hv)) B _) fun w10 hs12 => ?_
  refine zE 5 (hK8 _ _ ?_)
  refine W.sr fun K13 hK13 => ?_
  refine zR 3 ?_
  refine zL ⟨mb, 0, none⟩ (.pointer (some ⟨vb, 0, none⟩)) (cell_of_blk (hs12.old hmb) rfl) ?_
  refine zR 1 ?_
  refine zC00 hs12 (get_spec (at_ := (at_ + i_ / 64)) (hv := (viewAt_old hs12 hv)) B _) fun w14 hs16 => ?_
  refine zE 4 (hK13 _ _ ?_)
  refine W.ret ?_
  obtain rfl := some_inj hm
  refine ret_of (.bool (!decide ((bits .and .u64 (vget img l (at_ + i_ / 64)) (2 ^ (i_ % 64).toNat)) = 0))) (by kernel_rfl) ⟨_, ⟨rfl, rfl⟩, hs16⟩
 ·
  have h7p : ¬ (0 ≤ i_ ∧ i_ < many) := of_decide_eq_false (bnot_true h7)
  replace hm := ite_no hm h7p
  refine W.sr fun K17 hK17 => ?_
  refine zE 1 (hK17 _ _ ?_)
  refine W.ret (ret_seq ?_)
  obtain rfl := some_inj hm
  refine ret_of (.bool false) (by kernel_rfl) ⟨_, ⟨rfl, rfl⟩, hs6⟩

def mset_J1 (img : List Int) (l : List (Int × Int)) (at_ : Int) (i_ : Int) (p21 : Int) : Option (Int × List (Int × Int)) :=
 (some (vput img l (at_ + i_ / 64) p21)).bind fun r25 =>
some (r25.1, r25.2)

def mset_M (img : List Int) (l : List (Int × Int)) (at_ : Int) (many : Int) (i_ : Int) (is_ : Bool) : Option (Int × List (Int × Int)) :=
 if 0 ≤ i_ ∧ i_ < many then (need (0 ≤ i_ ∧ i_ ≤ 1000000000000 ∧ 0 ≤ at_ ∧ at_ ≤ 1000000000000) <|
(some (bits .andNot .u64 (vget img l (at_ + i_ / 64)) (2 ^ (i_ % 64).toNat))).bind fun r19 =>
if is_ = true then ((some (bits .or .u64 r19 (2 ^ (i_ % 64).toNat))).bind fun r35 =>
mset_J1 img l at_ i_ r35) else (mset_J1 img l at_ i_ r19)) else (some (8, l))

theorem mset_walk {img : List Int} {l : List (Int × Int)} {at_ : Int} {many : Int} {i_ : Int} {is_ : Bool} {mb vb : Nat} {r : Int × List (Int × Int)} (B : Nat) (w : World) (hm : mset_M img l at_ many i_ is_ = some r) : Spec Tryd.prog 100 #[(.pointer (some ⟨mb, 0, none⟩)), (.int .i64 i_), (.bool is_)] B w [blk mb (.cells [(.pointer (some ⟨vb, 0, none⟩)), (.int .i64 at_), (.int .i64 many)].toArray 136 (0, 0)), viewA (ptr vb) img l] (fun v H' => v = .int .i64 r.1 ∧ H' = [blk mb (.cells [(.pointer (some ⟨vb, 0, none⟩)), (.int .i64 at_), (.int .i64 many)].toArray 136 (0, 0)), viewA (ptr vb) img r.2]) := by
 refine spec_W Tryd.func100 rfl fun l0 hs => ?_
 unfold mset_M at hm
 refine W.sr fun K1 hK1 => ?_
 refine zE 1 (hK1 _ _ ?_)
 refine W.seq fun K2 hK2 => ?_
 refine W.sr fun K3 hK3 => ?_
 refine zE 2 (hK3 _ _ ?_)
 refine W.cond_false false (by kernel_rfl) rfl ?_
 refine W.skip ?_
 refine hK2 _ _ ?_
 refine W.seq fun K4 hK4 => ?_
 refine W.sr fun K5 hK5 => ?_
 refine zR 2 ?_
 refine zC00 hs (mhas_spec (i_ := i_) (hmb := (hs.heapAt 0 rfl)) (hv := (hs.entAt 1 rfl viewA_at)) B _) fun w6 hs8 => ?_
 refine zE 1 (hK5 _ _ ?_)
 refine W.cond (!(decide (0 ≤ i_ ∧ i_ < many))) (by kernel_rfl) (fun h9 => ?_) (fun h9 => ?_)
 rotate_left
 ·
  have h9p : 0 ≤ i_ ∧ i_ < many := of_decide_eq_true (bnot_false h9)
  replace hm := ite_yes hm h9p
  refine W.skip ?_
  refine hK4 _ _ ?_
  refine W.sr fun K10 hK10 => ?_
  refine zR 2 ?_
  obtain ⟨h11, hm⟩ := need_some hm
  refine zC00 hs8 (mword_spec (i_ := i_) (hq := h11) (hmb := (hs8.heapAt 0 rfl)) (hv := (hs8.entAt 1 rfl viewA_at)) B _) fun w12 hs14 => ?_
  refine zE 5 (hK10 _ _ ?_)
  refine W.sr fun K15 hK15 => ?_
  refine zR 3 ?_
  refine zL ⟨mb, 0, none⟩ (.pointer (some ⟨vb, 0, none⟩)) (hs14.cellAt 0 rfl rfl) ?_
  refine zR 1 ?_
  refine zC00 hs14 (get_spec (at_ := (at_ + i_ / 64)) (hv := (hs14.entAt 1 rfl viewA_at)) B _) fun w16 hs18 => ?_
  refine zR 3 ?_
  obtain ⟨r19, h20, hm⟩ := bind_some hm
  replace h20 := some_inj h20
  refine ops_set 9 (v := .int .u64 r19) (Eq.trans (by kernel_rfl) (congrArg (Value.int .u64) h20)) ?_
  refine zD (hK15 _ _ ?_)
  refine W.seq_join (fun s_ w_ => ∃ (p21 : Int), (∃ us, s_ = slots 41 [(0, (.pointer (some ⟨mb, 0, none⟩))), (7, (.int .i64 (at_ + i_ / 64))), (9, (.int .u64 p21))] us) ∧ St B w l0 w_ [viewA (ptr vb) img l, blk mb (.cells [(.pointer (some ⟨vb, 0, none⟩)), (.int .i64 at_), (.int .i64 many)].toArray 136 (0, 0))] ∧ mset_J1 img l at_ i_ p21 = some r) ?_ ?_
  ·
   rintro _ w22 ⟨p21, ⟨us, rfl⟩, hs23, hm⟩
   unfold mset_J1 at hm
   refine W.sr fun K24 hK24 => ?_
   refine zR 3 ?_
   refine zL ⟨mb, 0, none⟩ (.pointer (some ⟨vb, 0, none⟩)) (hs23.cellAt 1 rfl rfl) ?_
   refine zR 2 ?_
   obtain ⟨r25, h26, hm⟩ := bind_some hm
   replace h26 := some_inj h26
   refine ops_call1 hs23 (by kernel_rfl) (put_spec (p := (.pointer (some ⟨vb, 0, none⟩))) (img := img) (l := l) (at_ := (at_ + i_ / 64)) (x_ := p21) B _) ?_
   rintro _ _ w29 ⟨hv27, hH28⟩ hs30
   rw [h26] at hv27
   try rw [h26] at hH28
   subst hv27 hH28
   have hs31 := St.ap1 hs30
   refine zE 1 (hK24 _ _ ?_)
   refine W.ret ?_
   obtain rfl := some_inj hm
   have hs32 := St.f1 hs31
   refine ret_of (.int .i64 r25.1) (by kernel_rfl) ⟨_, ⟨rfl, rfl⟩, hs32⟩
  ·
   refine W.sr fun K33 hK33 => ?_
   refine zE 1 (hK33 _ _ ?_)
   refine W.cond is_ (by kernel_rfl) (fun h34 => ?_) (fun h34 => ?_)
   ·
    have h34p : is_ = true := h34
    replace hm := ite_yes hm h34p
    refine W.region ?_
    refine zR 4 ?_
    obtain ⟨r35, h36, hm⟩ := bind_some hm
    replace h36 := some_inj h36
    refine ops_set 9 (v := .int .u64 r35) (Eq.trans (by kernel_rfl) (congrArg (Value.int .u64) h36)) ?_
    refine zD ?_
    have hs37 := St.f1 hs18
    exact ⟨r35, slots_intro _ (by kernel_rfl), hs37, hm⟩
   ·
    have h34p : ¬ (is_ = true) := ne_true_of_eq_false h34
    replace hm := ite_no hm h34p
    refine W.skip ?_
    have hs38 := St.f1 hs18
    exact ⟨r19, slots_intro _ (by kernel_rfl), hs38, hm⟩
 ·
  have h9p : ¬ (0 ≤ i_ ∧ i_ < many) := of_decide_eq_false (bnot_true h9)
  replace hm := ite_no hm h9p
  refine W.sr fun K39 hK39 => ?_
  refine zE 1 (hK39 _ _ ?_)
  refine W.ret (ret_seq ?_)
  obtain rfl := some_inj hm
  refine ret_of (.int .i64 8) (by kernel_rfl) ⟨_, ⟨rfl, rfl⟩, hs8⟩

end Go.Proofs.YtmmclabkkigiaaaDoor
