/- Texts, one behind the other: Rf, Sv, Sx, Rb, Uz, Au, Zp, A5a, Sk, S2, F5a, F5b, Lg, F6a, F6b, F6c, F6d, F6f. -/
import Derived.Laws.BytesArg
import Derived.Lib.ConvBytes
import Derived.Laws.AppendOwn
import Derived.Laws.OwnMore
import Derived.Test.YtmmclabkkigiaaaQPN0
set_option linter.unusedVariables false
set_option linter.unusedSimpArgs false
namespace Go.Proofs.Ytmmclabkkigiaaa
open Go Go.RowKit
def YSpec (P : Program) (l : Nat) (args : Array Value) (B : Nat) (w : World) (pre : List Asn) (post : Value → List Asn → Prop) : Prop :=
  ∀ lf, B ≤ w.heap.size → Sep B w pre lf → ∃ f tmps assign body, (Instr.yield l args).run P w = .ok (.round l f tmps assign body) w ∧
    RoundIn (fen none) 0 P l f tmps assign body w (fun e w' => ∃ v, e = .returned v ∧ ∃ H' l', post v H' ∧ Sep B w' H' l' ∧ Upd w w' lf l')
section
variable {P : Program} {ops : Array Oper} {i : Nat} {s : Fs} {w : World} {K : Fs → World → Prop}
def yieldQ (ops : Array Oper) (i : Nat) (s : Fs) : Option (Nat × Array Value) :=
  match opQ ops i s with
  | some o => match o.op with
    | .call { callee := .value x, args := ags, .. } => match evS s x with
      | .func (.yield l) ⟨[]⟩ ⟨[]⟩ => some (l, ags.map (evS s))
      | _ => none
    | _ => none
  | none => none
theorem ops_yield {B : Nat} {w0 : World} {l0 : List Nat} {pre R : List Asn} {l : Nat} {args : Array Value} {post : Value → List Asn → Prop} (hs : St B w0 l0 w (pre ++ R)) (hr : s.r = none)
    (hq : yieldQ ops i s = some (l, args)) (hy : YSpec P l args B w pre post)
    (hk : ∀ v H' w', post v H' → St B w0 l0 w' (H' ++ R) → OpsAt true P ops (i + 1) (putS s (dstOf ops i) v) w' K) : OpsAt true P ops i s w K := by
  unfold yieldQ at hq
  split at hq
  · rename_i o ho
    obtain ⟨h1, h2, h3, h4⟩ := opQ_some' ho
    rw [h3] at hk
    split at hq
    · rename_i x ags tys hop
      split at hq
      · rename_i l' hx
        simp only [Option.some.injEq, Prod.mk.injEq] at hq
        obtain ⟨rfl, rfl⟩ := hq
        have hB := hs.size
        obtain ⟨l1, s1, key⟩ := hs.part
        obtain ⟨f, tmps, assign, body, hyr, hrd⟩ := hy l1 hB s1
        refine ⟨fun x' hx' T hT => ?_⟩
        rw [range_cons h1]
        simp only [wpM, wpOpsIn, h1, yield_rel hx', h2, if_true]
        refine ⟨fun _ _ => trivial, ?_⟩
        rw [Oper.semAt_eq _ _ _ (by intro c hc; rw [hop] at hc; cases hc), ev_rel hx']
        have hrun : (execOp (evS s) o).run P w = .ok (.round l' f tmps assign body) w := by
          simp [execOp, hop, resolve, hx, invoke, go_sem]
          exact hyr
        rw [hrun, hr]
        refine ⟨fen_depth, RoundIn.mono hrd ?_⟩
        rintro e w' ⟨v, rfl, H', l2, hp, hsep, hu⟩
        have h5 := (hk v H' w' hp (key w' H' l2 hsep hu)).out _ (rel_put hx' h4 v) T (fun y w' ⟨s', a, b, c⟩ => hT y w' ⟨s', a, b.trans (put_r _ _ _), c⟩)
        rw [put_r, hr] at h5
        exact h5
      · cases hq
    · cases hq
  · cases hq
end
def roundQ (B : Nat) (w : World) (lf : List Nat) (l : Nat) (rc : Loop) (post : Value → List Asn → Prop) : Exit → Fs → World → Prop
  | .normal, _, w3 => ∃ Y', St B w lf w3 (blk l (.loop { rc with state := .busy }) :: Y') ∧ post (.bool true) (blk l (.loop { rc with state := .ready, pending := none }) :: Y')
  | .ret, _, w3 => ∃ Y', St B w lf w3 (blk l (.loop { rc with state := .busy }) :: Y') ∧ post (.bool false) (blk l (.loop { rc with state := .done, pending := some .ret }) :: Y')
  | .exit id, _, w3 => ∃ Y', St B w lf w3 (blk l (.loop { rc with state := .busy }) :: Y') ∧ post (.bool false) (blk l (.loop { rc with state := .done, pending := some (.exit id) }) :: Y')
  | _, _, _ => False
theorem putObj_blk {B : Nat} {w0 w : World} {l0 : List Nat} {R : List Asn} {l : Nat} {o : Obj} (o' : Obj) (hs : St B w0 l0 w (blk l o :: R)) : St B w0 l0 (w.putObj l o') (blk l o' :: R) := by
  refine St.step1 (post := [blk l o']) hs ?_
  rintro lf ⟨h1, h2, rfl⟩
  have hlt := (Array.getElem?_eq_some_iff.1 h2).1
  refine ⟨[l], ⟨[l], [], ⟨h1, World.putObj_heap_same hlt, rfl⟩, fun b => by simp, fun b _ => by simp, by simp⟩, rfl, rfl, rfl, by simp, ?_, fun b h => .inl h⟩
  intro b _ hb
  simp only [List.mem_singleton] at hb
  exact World.putObj_heap_other hb
theorem St.head {B : Nat} {w0 w : World} {l0 : List Nat} {R : List Asn} {l : Nat} {o : Obj} (hs : St B w0 l0 w (blk l o :: R)) : w.heap[l]? = some o := hs.heapAt 0 rfl
theorem yspec_round {P : Program} {B : Nat} {w : World} {l : Nat} {rc : Loop} {Y : List Asn} {args : Array Value} {post : Value → List Asn → Prop} (hst : rc.state = .ready) (hsz : args.size = rc.params.size)
    (s0 : Fs) (hs0 : Rel ⟨(rc.params.zip args).foldl (fun tmps (t, a) => tmps.setIfInBounds t a) rc.tmps, []⟩ s0) (hr0 : s0.r = some l)
    (walk : ∀ lf, St B w lf w (blk l (.loop rc) :: Y) → ∀ K : Fs → World → Prop, (∀ s' w1, St B w lf w1 (blk l (.loop rc) :: Y) →
      (∀ w2, St B w lf w2 (blk l (.loop { rc with state := .busy }) :: Y) → W P rc.body s' w2 (roundQ B w lf l rc post)) → K s' w1) → W P rc.assign s0 w (seqQ K (fun _ _ _ => False))) :
    YSpec P l args B w (blk l (.loop rc) :: Y) post := by
  intro lf hB hsep
  have hst0 : St B w lf w (blk l (.loop rc) :: Y) := St.begin hB hsep
  refine ⟨rc.fn, _, rc.assign, rc.body, run_yield hst0.head hsz, roundIn_of_wpIn trivial ?_⟩
  have hw := (walk lf hst0 (fun s' w1 => St B w lf w1 (blk l (.loop rc) :: Y) ∧ ∀ w2, St B w lf w2 (blk l (.loop { rc with state := .busy }) :: Y) → W P rc.body s' w2 (roundQ B w lf l rc post)) (fun s' w1 h1 h2 => ⟨h1, h2⟩)).out _ hs0
  rw [hr0] at hw
  refine wpIn_mono hw ?_
  rintro e x w1 ⟨s', hx, hsr, hq⟩
  cases e with
  | normal =>
    obtain ⟨h1, h2⟩ := (show St B w lf w1 (blk l (.loop rc) :: Y) ∧ _ from hq)
    refine ⟨_, run_beginRound h1.head hst, ?_⟩
    have h3 := (h2 _ (putObj_blk (.loop { rc with state := .busy }) h1)).out x hx
    rw [hsr] at h3
    refine wpIn_mono h3 ?_
    have fin : ∀ (jump : Option Code) (w3 : World) (Y' : List Asn) (v : Value), v = .bool jump.isNone → St B w lf w3 (blk l (.loop { rc with state := .busy }) :: Y') →
        post v (blk l (.loop { rc with state := if jump.isNone then .ready else .done, pending := jump }) :: Y') →
        ∃ v w', (Instr.endRound l jump).run P w3 = .ok v w' ∧ ∃ v', Ending.returned v = .returned v' ∧ ∃ H' l', post v' H' ∧ Sep B w' H' l' ∧ Upd w w' lf l' := by
      intro jump w3 Y' v hv hs3 hp
      have hs4 := putObj_blk (.loop { rc with state := if jump.isNone then .ready else .done, pending := jump }) hs3
      obtain ⟨_, _, l', hsep', hu⟩ := hs4
      subst hv
      exact ⟨_, _, run_endRound jump hs3.head, _, rfl, _, l', hp, hsep', hu⟩
    rintro e y w3 ⟨s3, hy, hs3, hq3⟩
    cases e with
    | normal => obtain ⟨Y', ha, hb⟩ := hq3; exact fin none w3 Y' _ rfl ha hb
    | ret => obtain ⟨Y', ha, hb⟩ := hq3; exact fin (some .ret) w3 Y' _ rfl ha hb
    | exit id => obtain ⟨Y', ha, hb⟩ := hq3; exact fin (some (.exit id)) w3 Y' _ rfl ha hb
    | _ => exact hq3.elim
  | _ => exact hq.elim
def Fs.mark (s : Fs) (D : Nat) : Fs := ⟨s.n, s.f, s.r, { target := .collected D, args := #[] } :: s.d⟩
theorem W.rangeFunc {P : Program} {s : Fs} {w : World} {Q : Exit → Fs → World → Prop} {B : Nat} {w0 : World} {l0 : List Nat} {g : Operand} {ps : Array Tmp} {assign body : Code} {gf : Nat} {lb : Array Value} {pre R : List Asn}
    {post : Loop → Nat → Value → List Asn → Prop}
    (hs : St B w0 l0 w (pre ++ R)) (hr : s.r = none) (hg : evS s g = .func (.func gf) #[] lb) (hf : ∀ args w, (callFunc gf args).run P w = .ok (.enter gf args) w)
    (hc : ∀ (rc : Loop) (l : Nat) (w1 : World), rc.tmps.size = s.n → (∀ i, rc.tmps.getD i undef = s.f i) → rc.state = .ready → rc.pending = none → rc.params = ps → rc.assign = assign → rc.body = body →
      St B w0 l0 w1 (blk l (.loop rc) :: blk rc.defers (.deferred (some [])) :: (pre ++ R)) → Spec P gf (#[.func (.yield l) #[] #[]] ++ lb) B w1 (blk l (.loop rc) :: pre) (post rc l))
    (hk : ∀ (rc : Loop) (l : Nat) (v : Value) (H' : List Asn), post rc l v H' → ∃ rc' H'', rc'.state ≠ .busy ∧ rc'.defers = rc.defers ∧ H' = blk l (.loop rc') :: H'' ∧
      ∀ w3, St B w0 l0 w3 (blk rc.defers (.deferred (some [])) :: (H'' ++ R)) → match rc'.pending with
        | none => Q .normal (s.mark rc.defers) w3
        | some c => W P c (s.mark rc.defers) w3 Q) : W P (.rangeFunc g ps assign body) s w Q := by
  refine ⟨fun x hx => ?_⟩
  rw [hr]
  refine wpIn_rangeFunc ?_
  intro fn _
  obtain ⟨rc, hrc⟩ : ∃ rc : Loop, rc = { state := .ready, pending := none, fn, tmps := x.tmps, params := ps, assign, body, defers := w.heap.size } := ⟨_, rfl⟩
  have hB := hs.size
  have hs1 : St B w0 l0 (w.alloc (.deferred (some []))) (blk w.heap.size (.deferred (some [])) :: (pre ++ R)) := by
    refine St.step0 (post := [blk w.heap.size (.deferred (some []))]) hs ⟨[w.heap.size], ⟨[w.heap.size], [], ⟨hB, heap_alloc_new w _, rfl⟩, fun c => by simp, fun c _ => by simp, by simp⟩, rfl, rfl, rfl, by simp, fun c hc _ => Below.heap_alloc _ _ _ hc, fun c hc => .inr (by simp only [List.mem_singleton] at hc; omega)⟩
  have hB1 := hs1.size
  have hs2 : St B w0 l0 ((w.alloc (.deferred (some []))).alloc (.loop rc)) (blk (w.heap.size + 1) (.loop rc) :: blk w.heap.size (.deferred (some [])) :: (pre ++ R)) := by
    have e : (w.alloc (.deferred (some []))).heap.size = w.heap.size + 1 := by simp
    have hn := heap_alloc_new (w.alloc (.deferred (some []))) (.loop rc)
    rw [e] at hn hB1
    refine St.step0 (post := [blk (w.heap.size + 1) (.loop rc)]) hs1 ⟨[w.heap.size + 1], ⟨[w.heap.size + 1], [], ⟨hB1, hn, rfl⟩, fun c => by simp, fun c _ => by simp, by simp⟩, rfl, rfl, rfl, by simp, fun c hc _ => Below.heap_alloc _ _ _ hc, fun c hc => .inr (by simp only [List.mem_singleton] at hc; omega)⟩
  have hrd : rc.defers = w.heap.size := by rw [hrc]
  have hspec := hc rc (w.heap.size + 1) _ (by rw [hrc]; exact hx.1.1) (by rw [hrc]; exact hx.2) (by rw [hrc]) (by rw [hrc]) (by rw [hrc]) (by rw [hrc]) (by rw [hrc]) (by rw [hrd]; exact hs2)
  have hperm : (blk (w.heap.size + 1) (.loop rc) :: blk w.heap.size (.deferred (some [])) :: (pre ++ R)).Perm ((blk (w.heap.size + 1) (.loop rc) :: pre) ++ (blk w.heap.size (.deferred (some [])) :: R)) := by
    simp only [List.cons_append]
    exact (List.perm_middle.symm).cons _
  have hs3 := hs2.perm hperm
  obtain ⟨l1, s1, key⟩ := hs3.part
  refine ⟨w.heap.size + 1, [{ target := .collected w.heap.size, args := #[] }], (w.alloc (.deferred (some []))).alloc (.loop rc), { target := .fn (.func gf) lb, args := #[.func (.yield (w.heap.size + 1)) #[] #[]] }, (w.alloc (.deferred (some []))).alloc (.loop rc), gf,
    #[.func (.yield (w.heap.size + 1)) #[] #[]] ++ lb, (w.alloc (.deferred (some []))).alloc (.loop rc), by rw [show (fen none).round = none from rfl, run_enterLoop_outer, ← hrc], ?_, fun _ _ => trivial, ?_, fen_depth, ?_⟩
  · simp only [resolve, ev_rel hx, hg]
    simp [go_sem]
    rfl
  · simp [invoke, go_sem, hf]
  · refine calls_fen (Calls.mono (hspec l1 hs3.size s1) ?_)
    rintro e w3 ⟨v, rfl, H', l', hp, hsep, hu⟩
    obtain ⟨rc', H'', hne, hd, rfl, hfin⟩ := hk rc _ v H' hp
    have hs4 := key w3 _ l' hsep hu
    have hs5 := putObj_blk (.loop { rc' with state := .exhausted }) hs4
    have hs6 := hs5.drop
    have hs7 : St B w0 l0 (w3.putObj (w.heap.size + 1) (.loop { rc' with state := .exhausted })) (blk rc.defers (.deferred (some [])) :: (H'' ++ R)) := by
      rw [hrd]; exact hs6.perm List.perm_middle
    refine ⟨rc'.pending, _, run_endLoop (hs4.heapAt 0 rfl) hne, ?_⟩
    have h8 := hfin _ hs7
    have hrel : Rel { x with defers := [{ target := .collected w.heap.size, args := #[] }] ++ x.defers } (s.mark rc.defers) := by
      refine ⟨⟨hx.1.1, ?_⟩, hx.2⟩
      simp [Fs.mark, hrd, hx.1.2]
    cases hpe : rc'.pending with
    | none => rw [hpe] at h8; exact ⟨_, hrel, hr, h8⟩
    | some c =>
      rw [hpe] at h8
      have h9 := W.out h8 _ hrel
      have hmr : (s.mark rc.defers).r = none := hr
      rw [hmr] at h9
      exact h9
theorem leave_mark {P : Program} {fn : Func} {R : Value → World → Prop} {s : Fs} {B : Nat} {w0 w : World} {l0 : List Nat} {D : Nat} {H : List Asn} {v : Value} (hs : St B w0 l0 w (blk D (.deferred (some [])) :: H))
    (hd : s.d = [{ target := .collected D, args := #[] }]) (hv : ∀ w', St B w0 l0 w' H → (resD fn s).run P w' = .ok v w') (hR : ∀ w', St B w0 l0 w' H → R v w') : Leave P fn R s w := by
  refine ⟨?_⟩
  rw [hd]
  have h := (putObj_blk (.deferred none) hs).drop
  exact ⟨D, _, rfl, run_takeDeferred hs.head, v, hv _ h, hR _ h⟩
def scalarB (P : Program) (t : TypeId) : Bool :=
  match P.underlying t with
  | some (.struct _) => false
  | some (.array _ _) => false
  | some _ => true
  | none => false
theorem run_loadVar_cell {P : Program} {w : World} {t : TypeId} {ad : Addr} {v : Value} (ht : scalarB P t = true) (hc : w.cell? ad = some v) : (loadVar t ad).run P w = .ok v w := by
  unfold scalarB at ht
  split at ht
  · cases ht
  · cases ht
  · rename_i d h1 h2 hu
    have hag : (isAgg t).run P w = .ok false w := by
      unfold isAgg
      rw [Sem.run_bind, run_underlying hu]
      simp only [Result.andThen_ok]
      cases d <;> first | rfl | exact (h1 _ rfl).elim | exact (h2 _ _ rfl).elim
    simp only [loadVar, Sem.run_bind, Result.andThen_ok, hag, load]
    simp [Sem.run, hc]
  · cases ht
inductive ResAt (P : Program) (s : Fs) (w : World) : ResultVar → Value → Prop
  | tmp {t : Tmp} {v : Value} (h : s.f t = v) : ResAt P s w (.tmp t) v
  | cell {a : Tmp} {t : TypeId} {ad : Addr} {v : Value} (ha : s.f a = .pointer (some ad)) (ht : scalarB P t = true) (hc : w.cell? ad = some v) : ResAt P s w (.cell a t) v
  | agg {a : Tmp} {t : TypeId} {ad : Addr} {cs : List Value} (ha : s.f a = .pointer (some ad)) (hz : aggSize P t = some cs.length) (hc : ∀ j v, cs[j]? = some v → w.cell? (ad.add j) = some v) : ResAt P s w (.cell a t) (.agg cs.toArray)
theorem ResAt.run {P : Program} {s : Fs} {w : World} {r : ResultVar} {v : Value} (h : ResAt P s w r v) :
    (resF s r).run P w = .ok v w := by
  cases h with
  | tmp h => subst h; rfl
  | cell ha ht hc => simp [resF, ha, asAddr, run_loadVar_cell ht hc]
  | agg ha hz hc => simp [resF, ha, asAddr, run_loadVar_agg hz hc]
theorem resD_one {P : Program} {s : Fs} {w : World} {fn : Func} {r : ResultVar} {v : Value} (hr : fn.results = #[r]) (h : ResAt P s w r v) : (resD fn s).run P w = .ok v w := by
  have h1 := h.run
  unfold resD
  rw [hr]
  simp [h1]
theorem resD_two {P : Program} {s : Fs} {w : World} {fn : Func} {r q : ResultVar} {v u : Value} (hr : fn.results = #[r, q]) (h : ResAt P s w r v) (h' : ResAt P s w q u) : (resD fn s).run P w = .ok (.tuple #[v, u]) w := by
  have h1 := h.run
  have h2 := h'.run
  unfold resD
  rw [hr]
  simp [Sem.run_bind, h1, h2]
theorem resS_of {P : Program} {s : Fs} {w : World} {fn : Func} {v : Value} (hd : s.d = []) (h : (resD fn s).run P w = .ok v w) : (resS fn s).run P w = .ok v w := by
  unfold resS
  rw [hd]
  exact h
def YA {G : Type} (l : Nat) (rc : Loop) (F : G → Prop) (Hs : G → List Asn) : Asn := exA F (fun x => blk l (.loop rc) :: Hs x)
theorem sep_exA {G : Type} {B : Nat} {w : World} {l : List Nat} {F : G → Prop} {Hs : G → List Asn} (x : G) (hF : F x) (h : Sep B w (Hs x) l) : Sep B w [exA F Hs] l :=
  ⟨l, [], ⟨x, hF, h⟩, fun b => by simp, fun b _ => by simp, by simp⟩
def jumpOf : Exit → Option Code
  | .ret => some .ret
  | .exit id => some (.exit id)
  | _ => none
def rq {G GZ : Type} (B : Nat) (w : World) (lf : List Nat) (l : Nat) (rc : Loop) (F' : G → Prop) (Hs : G → List Asn) (c : Code) (FZ : GZ → Prop) (HsZ : GZ → List Asn) : Exit → Fs → World → Prop
  | .normal, _, w3 => ∃ x, F' x ∧ St B w lf w3 (blk l (.loop { rc with state := .busy }) :: Hs x)
  | e, _, w3 => jumpOf e = some c ∧ ∃ z, FZ z ∧ St B w lf w3 (blk l (.loop { rc with state := .busy }) :: HsZ z)
theorem yspec_ghost {G GZ : Type} {P : Program} {B : Nat} {w : World} {l : Nat} {rc : Loop} {args : Array Value} {F F' : G → Prop} {Hs : G → List Asn} {c : Code} {FZ : GZ → Prop} {HsZ : GZ → List Asn}
    (hst : rc.state = .ready) (hpe : rc.pending = none) (hsz : args.size = rc.params.size)
    (s0 : Fs) (hs0 : Rel ⟨(rc.params.zip args).foldl (fun tmps (t, a) => tmps.setIfInBounds t a) rc.tmps, []⟩ s0) (hr0 : s0.r = some l)
    (walk : ∀ x, F x → ∀ lf, St B w lf w (blk l (.loop rc) :: Hs x) → ∀ K : Fs → World → Prop, (∀ s' w1, St B w lf w1 (blk l (.loop rc) :: Hs x) →
      (∀ w2, St B w lf w2 (blk l (.loop { rc with state := .busy }) :: Hs x) → W P rc.body s' w2 (rq B w lf l rc F' Hs c FZ HsZ)) → K s' w1) → W P rc.assign s0 w (seqQ K (fun _ _ _ => False))) :
    YSpec P l args B w [YA l rc F Hs] (fun v H' => (v = .bool true ∧ H' = [YA l rc F' Hs]) ∨ (v = .bool false ∧ H' = [YA l { rc with state := .done, pending := some c } FZ HsZ])) := by
  intro lf hB hsep
  obtain ⟨l1, l2, ⟨x, hF, h1⟩, h2, hd, hm⟩ := hsep
  have hmm : ∀ b, b ∈ lf ↔ b ∈ l1 := fun b => by rw [hm b]; exact ⟨fun h => h.resolve_right (h2 b), .inl⟩
  have key := yspec_round (P := P) (B := B) (w := w) (Y := Hs x) (args := args) (post := fun v H' =>
      (∃ x', F' x' ∧ v = .bool true ∧ H' = blk l (.loop rc) :: Hs x') ∨ (∃ z, FZ z ∧ v = .bool false ∧ H' = blk l (.loop { rc with state := .done, pending := some c }) :: HsZ z)) hst hsz s0 hs0 hr0 (by
    intro lf' hs K hK
    refine walk x hF lf' hs K fun s' w1 h3 h4 => hK s' w1 h3 fun w2 h5 => (h4 w2 h5).mono ?_
    intro e s3 w3 hq
    have hrc : ({ rc with state := .ready, pending := none } : Loop) = rc := by cases rc; simp_all
    cases e with
    | normal =>
      obtain ⟨x', hF', h6⟩ := hq
      exact ⟨_, h6, .inl ⟨x', hF', rfl, by rw [hrc]⟩⟩
    | ret =>
      obtain ⟨hj, z, hz, h6⟩ := hq
      simp only [jumpOf, Option.some.injEq] at hj
      subst hj
      exact ⟨_, h6, .inr ⟨z, hz, rfl, rfl⟩⟩
    | exit id =>
      obtain ⟨hj, z, hz, h6⟩ := hq
      simp only [jumpOf, Option.some.injEq] at hj
      subst hj
      exact ⟨_, h6, .inr ⟨z, hz, rfl, rfl⟩⟩
    | goto t => obtain ⟨hj, _⟩ := hq; cases hj
    | panic t => obtain ⟨hj, _⟩ := hq; cases hj
    | outgrown => obtain ⟨hj, _⟩ := hq; cases hj)
  obtain ⟨f, tmps, assign, body, hy, hrd⟩ := key l1 hB h1
  refine ⟨f, tmps, assign, body, hy, RoundIn.mono hrd ?_⟩
  rintro e w' ⟨v, rfl, H', l', hp, hs', hu⟩
  have hu' : Upd w w' lf l' := ⟨hu.os, hu.tape, hu.output, hu.size, fun b hb hn => hu.block b hb fun h => hn ((hmm b).2 h), fun b hb => (hu.foot b hb).imp (fun h => (hmm b).2 h) id⟩
  rcases hp with ⟨x', hF', rfl, rfl⟩ | ⟨z, hz, rfl, rfl⟩
  · exact ⟨_, rfl, _, l', .inl ⟨rfl, rfl⟩, sep_exA x' hF' hs', hu'⟩
  · exact ⟨_, rfl, _, l', .inr ⟨rfl, rfl⟩, sep_exA z hz hs', hu'⟩
theorem W.rounds {G GZ : Type} {P : Program} {s : Fs} {w : World} {Q : Exit → Fs → World → Prop} {B : Nat} {w0 : World} {l0 : List Nat} {g : Operand} {ps : Array Tmp} {assign body : Code} {gf : Nat} {lb : Array Value}
    (n : Nat) (F : Nat → G → Prop) (Hs : G → List Asn) (c : Code) (FZ : GZ → Prop) (HsZ : GZ → List Asn) (own : List Asn) (enc : Nat → Array Value) (s0 : Nat → Nat → Fs) (x0 : G) (h0 : F 0 x0)
    (hs : St B w0 l0 w (own ++ Hs x0)) (hr : s.r = none) (hg : evS s g = .func (.func gf) #[] lb) (hf : ∀ args w, (callFunc gf args).run P w = .ok (.enter gf args) w) (hsz : ∀ k, (enc k).size = ps.size)
    (hrel : ∀ (a : Array Value) (k l : Nat), a.size = s.n → (∀ i, a.getD i undef = s.f i) → Rel ⟨(ps.zip (enc k)).foldl (fun tmps (t, a) => tmps.setIfInBounds t a) a, []⟩ (s0 k l) ∧ (s0 k l).r = some l)
    (iter : ∀ (l : Nat) (w1 : World) (Y : Nat → Asn) (Z : Asn), (∀ k, k < n → ∀ w', YSpec P l (enc k) B w' [Y k] (fun v H' => (v = .bool true ∧ H' = [Y (k + 1)]) ∨ (v = .bool false ∧ H' = [Z]))) →
      Spec P gf (#[.func (.yield l) #[] #[]] ++ lb) B w1 (own ++ [Y 0]) (fun v H' => v = .tuple #[] ∧ (H' = own ++ [Y n] ∨ H' = own ++ [Z])))
    (round : ∀ (k : Nat), k < n → ∀ (rc : Loop) (l : Nat) (w' : World) (x : G), F k x → ∀ lf, St B w' lf w' (blk l (.loop rc) :: Hs x) → ∀ K : Fs → World → Prop, (∀ s' w1, St B w' lf w1 (blk l (.loop rc) :: Hs x) →
      (∀ w2, St B w' lf w2 (blk l (.loop { rc with state := .busy }) :: Hs x) → W P body s' w2 (rq B w' lf l rc (F (k + 1)) Hs c FZ HsZ)) → K s' w1) → W P assign (s0 k l) w' (seqQ K (fun _ _ _ => False)))
    (done : ∀ D w3 x, F n x → St B w0 l0 w3 (blk D (.deferred (some [])) :: (own ++ Hs x)) → Q .normal (s.mark D) w3)
    (jump : ∀ D w3 z, FZ z → St B w0 l0 w3 (blk D (.deferred (some [])) :: (own ++ HsZ z)) → W P c (s.mark D) w3 Q) : W P (.rangeFunc g ps assign body) s w Q := by
  refine W.rangeFunc (pre := own ++ Hs x0) (R := []) (post := fun rc l v H' => v = .tuple #[] ∧ ((∃ x, F n x ∧ H' = blk l (.loop rc) :: (own ++ Hs x)) ∨ (∃ z, FZ z ∧ H' = blk l (.loop { rc with state := .done, pending := some c }) :: (own ++ HsZ z))) ∧ rc.state = .ready ∧ rc.pending = none) (by simpa using hs) hr hg hf ?_ ?_
  · intro rc l w1 h1 h2 h3 h4 h5 h6 h7 hs1
    have hyy : ∀ k, k < n → ∀ w', YSpec P l (enc k) B w' [YA l rc (F k) Hs] (fun v H' => (v = .bool true ∧ H' = [YA l rc (F (k + 1)) Hs]) ∨ (v = .bool false ∧ H' = [YA l { rc with state := .done, pending := some c } FZ HsZ])) := by
      intro k hk w'
      obtain ⟨hrl, hrr⟩ := hrel rc.tmps k l h1 h2
      rw [← h5] at hrl
      refine yspec_ghost h3 h4 (by rw [h5]; exact hsz k) (s0 k l) hrl hrr ?_
      intro x hF lf hs2
      have hw := round k hk rc l w' x hF lf hs2
      rw [← h6, ← h7] at hw
      exact hw
    have hit := iter l w1 (fun k => YA l rc (F k) Hs) (YA l { rc with state := .done, pending := some c } FZ HsZ) hyy
    intro lf hB hsep
    have st1 : St B w1 lf w1 (blk l (.loop rc) :: (own ++ Hs x0)) := St.begin hB hsep
    have hp1 : (blk l (.loop rc) :: (own ++ Hs x0)).Perm (blk l (.loop rc) :: Hs x0 ++ own) := by
      simp only [List.cons_append]
      exact List.Perm.cons _ List.perm_append_comm
    have st2 := St.close (F := F 0) (Hs := fun x => blk l (.loop rc) :: Hs x) x0 h0 (st1.perm hp1)
    have st3 : St B w1 lf w1 (own ++ [YA l rc (F 0) Hs]) := st2.perm (List.perm_append_singleton _ _).symm
    have st4 : St B w1 lf w1 ((own ++ [YA l rc (F 0) Hs]) ++ []) := by simpa using st3
    obtain ⟨l1, s1, key⟩ := st4.part
    refine Calls.mono (hit l1 hB s1) ?_
    rintro e w3 ⟨v, rfl, H', l', ⟨rfl, hp⟩, hsep', hu⟩
    have fin : ∀ {G' : Type} (rc' : Loop) (F' : G' → Prop) (Hs' : G' → List Asn), H' = own ++ [YA l rc' F' Hs'] → ∃ x, F' x ∧ St B w1 lf w3 (blk l (.loop rc') :: (own ++ Hs' x)) := by
      intro G' rc' F' Hs' hH
      subst hH
      have st5 := key w3 _ l' hsep' hu
      have st6 : St B w1 lf w3 (YA l rc' F' Hs' :: own) := by
        have : ((own ++ [YA l rc' F' Hs']) ++ []).Perm (YA l rc' F' Hs' :: own) := by rw [List.append_nil]; exact List.perm_append_singleton (YA l rc' F' Hs') own
        exact st5.perm this
      obtain ⟨x, hF, st7⟩ := St.open (F := F') (Hs := fun x => blk l (.loop rc') :: Hs' x) st6
      refine ⟨x, hF, st7.perm ?_⟩
      simp only [List.cons_append]
      exact List.Perm.cons _ List.perm_append_comm
    rcases hp with hp | hp
    · obtain ⟨x, hF, _, _, l5, h8, h9⟩ := fin _ _ _ hp
      exact ⟨_, rfl, _, l5, ⟨rfl, .inl ⟨x, hF, rfl⟩, h3, h4⟩, h8, h9⟩
    · obtain ⟨z, hz, _, _, l5, h8, h9⟩ := fin _ _ _ hp
      exact ⟨_, rfl, _, l5, ⟨rfl, .inr ⟨z, hz, rfl⟩, h3, h4⟩, h8, h9⟩
  · rintro rc l v H' ⟨rfl, hp, h3, h4⟩
    rcases hp with ⟨x, hF, rfl⟩ | ⟨z, hz, rfl⟩
    · refine ⟨rc, own ++ Hs x, (fun h => by have h' := h3.symm.trans h; cases h'), rfl, rfl, fun w3 hs3 => ?_⟩
      rw [h4]
      exact done _ w3 x hF (by simpa using hs3)
    · refine ⟨{ rc with state := .done, pending := some c }, own ++ HsZ z, (fun h => by cases h), rfl, rfl, fun w3 hs3 => ?_⟩
      exact jump _ w3 z hz (by simpa using hs3)
theorem rel_round1 {n : Nat} {L : List (Nat × Value)} {us : Nat → Value} {l p : Nat} {v : Value} (hp : p < n) {a : Array Value} (h1 : a.size = n) (h2 : ∀ i, a.getD i undef = look L i (us i)) :
    Rel ⟨((#[p] : Array Tmp).zip #[v]).foldl (fun tmps (t, a) => tmps.setIfInBounds t a) a, []⟩ (slotsD n ((p, v) :: L) us (some l) []) := by
  have h := rel_set h1 h2 hp v
  have e : ((#[p] : Array Tmp).zip #[v]).foldl (fun tmps (t, a) => tmps.setIfInBounds t a) a = a.setIfInBounds p v := by simp [Array.zip]
  rw [e]
  exact ⟨⟨h.1, rfl⟩, h.2⟩
theorem rel_round2 {n : Nat} {L : List (Nat × Value)} {us : Nat → Value} {l p q : Nat} {v u : Value} (hp : p < n) (hq : q < n) {a : Array Value} (h1 : a.size = n) (h2 : ∀ i, a.getD i undef = look L i (us i)) :
    Rel ⟨((#[p, q] : Array Tmp).zip #[v, u]).foldl (fun tmps (t, a) => tmps.setIfInBounds t a) a, []⟩ (slotsD n ((q, u) :: (p, v) :: L) us (some l) []) := by
  have h := rel_set h1 h2 hp v
  have h' := rel_set h.1 h.2 hq u
  have e : ((#[p, q] : Array Tmp).zip #[v, u]).foldl (fun tmps (t, a) => tmps.setIfInBounds t a) a = (a.setIfInBounds p v).setIfInBounds q u := by simp [Array.zip]
  rw [e]
  exact ⟨⟨h'.1, rfl⟩, h'.2⟩
def rounds {σ ρ : Type} (body : Nat → (σ → Option ρ) → σ → Option ρ) (done : σ → Option ρ) : Nat → Nat → σ → Option ρ
  | 0, _, s => done s
  | m + 1, k, s => body k (rounds body done m (k + 1)) s
theorem rounds_at {σ ρ : Type} {body : Nat → (σ → Option ρ) → σ → Option ρ} {done : σ → Option ρ} {n k : Nat} (hk : k < n) (s : σ) : rounds body done (n - k) k s = body k (rounds body done (n - (k + 1)) (k + 1)) s := by
  obtain ⟨m, hm⟩ : ∃ m, n - k = m + 1 := ⟨n - k - 1, by omega⟩
  rw [hm, show n - (k + 1) = m by omega]
  rfl
theorem rounds_end {σ ρ : Type} {body : Nat → (σ → Option ρ) → σ → Option ρ} {done : σ → Option ρ} {n : Nat} (s : σ) : rounds body done (n - n) n s = done s := by
  rw [Nat.sub_self]
  rfl
def Kept (w0 w : World) : Prop := ∀ b, b < w0.heap.size → w.heap[b]? = w0.heap[b]?
theorem Kept.blk {w0 w : World} (h : Kept w0 w) {b : Nat} {o : Obj} (hb : w0.heap[b]? = some o) : w.heap[b]? = some o := by
  rw [h b (Array.getElem?_eq_some_iff.1 hb).1]; exact hb
theorem Kept.cell {w0 w : World} (h : Kept w0 w) {ad : Addr} {v : Value} (hc : w0.cell? ad = some v) : w.cell? ad = some v := by
  have hb := World.block_lt_of_cell? w0 ad hc
  rw [World.cell?_of_block (w := w0) (h ad.block hb)]
  exact hc
theorem Kept.cells {w0 w : World} (h : Kept w0 w) {a : Option Addr} {cs : List Value} (hc : CellsAt a cs w0) : CellsAt a cs w := by
  cases a with
  | none => exact hc
  | some ad => exact fun j v hv => h.cell (hc j v hv)
theorem Kept.map {w0 w : World} (h : Kept w0 w) {b : Nat} {l : List (Int × Int)} (hm : MapAt b l w0) : MapAt b l w := by
  obtain ⟨es, clock, hb, he⟩ := hm
  exact ⟨es, clock, h.blk hb, he⟩
end Go.Proofs.Ytmmclabkkigiaaa

namespace Go.Proofs.Ytmmclabkkigiaaa
open Go Go.RowKit
section
variable {M : Bool} {P : Program} {ops : Array Oper} {i : Nat} {s : Fs} {w w' : World} {K : Fs → World → Prop}
theorem resD_three {P : Program} {s : Fs} {w : World} {fn : Func} {r q p : ResultVar} {v u z : Value} (hr : fn.results = #[r, q, p]) (h : ResAt P s w r v) (h' : ResAt P s w q u) (h'' : ResAt P s w p z) : (resD fn s).run P w = .ok (.tuple #[v, u, z]) w := by
  have h1 := h.run
  have h2 := h'.run
  have h3 := h''.run
  unfold resD
  rw [hr]
  simp [Sem.run_bind, h1, h2, h3]
theorem kU8_cells (xs : List Int) : kU8.cells xs = xs.map (Value.int .u8) := by
  induction xs with
  | nil => rfl
  | cons x xs ih => rw [Kind.cells_cons, ih]; rfl
theorem cells_nil_none {α : Type} (Kd : Kind α) (w : World) : CellsAt none (Kd.cells []) w := rfl
def strConvQ (P : Program) (ops : Array Oper) (i : Nat) (s : Fs) : Option (Option Addr × Nat × Nat) :=
  match opQ ops i s with
  | some o => match o.op with
    | .convert src dst x => match P.underlying src, P.underlying dst, evS s x with
      | some (.slice e), some .string, .slice a n c => match P.underlying e with
        | some (.int .u8) => some (a, n, c)
        | _ => none
      | _, _, _ => none
    | _ => none
  | none => none
theorem runs_bytesStr {a : Option Addr} {n c : Nat} {xs : List Int} (hc : CellsAt a (kU8.cells xs) w) (hn : n = xs.length) (hq : strConvQ P ops i s = some (a, n, c)) : RunsTo P ops i s w (.string (strOfNums xs)) w := by
  subst hn
  unfold strConvQ at hq
  split at hq
  · rename_i o ho
    split at hq
    · rename_i src dst x hop
      refine ⟨_, ho, ?_⟩
      split at hq
      · rename_i e a' n' c' hsrc hdst hx
        split at hq
        · rename_i he
          simp only [Option.some.injEq, Prod.mk.injEq] at hq
          obtain ⟨rfl, rfl, rfl⟩ := hq
          have hr : (convert src dst (.slice a' xs.length c')).run P w = .ok (.string (strOfNums xs)) w := by
            cases a' with
            | none =>
              have h0 := cells_none kU8 hc
              subst h0
              exact run_convert_bytes_nil w src e hsrc he _ _ dst hdst
            | some ad =>
              have hl : (loadCells ad xs.length).run P w = .ok (xs.map (Value.int .u8)).toArray w := by
                have h := run_loadCells_list (P := P) w ad (xs.map (Value.int .u8)) (fun j v hj => hc j v (by rw [kU8_cells]; exact hj))
                simpa using h
              rw [run_convert_bytes_string w src dst e _ _ _ hsrc he hdst, run_bytesToString w _ _ _ xs hl, foldl_push_bytes]
              simp [strOfNums, ByteArray.empty, ByteArray.emptyWithCapacity]
              rfl
          simp only [execOp, hop, hx, Sem.run_bind, Result.andThen_ok, hr, Sem.run_pure]
        · cases hq
      · cases hq
    · cases hq
  · cases hq
end
end Go.Proofs.Ytmmclabkkigiaaa

namespace Go.Proofs.Ytmmclabkkigiaaa
open Go Go.RowKit
@[simp] theorem beq_bytes (a b : ByteArray) : ((a == b) = true) ↔ a = b := by
  constructor
  · intro h
    cases a with | mk x => cases b with | mk y =>
    have : (x == y) = true := h
    rw [beq_iff_eq.1 this]
  · rintro rfl
    cases a with | mk x => exact (show (x == x) = true from beq_self_eq_true x)
@[simp] theorem beq_bytes_false (a b : ByteArray) : ((a == b) = false) ↔ ¬ (a = b) := by
  rw [← beq_bytes, Bool.not_eq_true]
section
variable {P : Program} {ops : Array Oper} {i : Nat} {s : Fs} {w : World}
def sbyte (s : ByteArray) (k : Int) : Int := (((s[k.toNat]?).getD 0).toNat : Int)
def strIdxQ (P : Program) (ops : Array Oper) (i : Nat) (s : Fs) : Option (ByteArray × Int) :=
  match opQ ops i s with
  | some o => match o.op with
    | .index t x y => match P.underlying t, evS s x, evS s y with
      | some .string, .string b, .int _ k => some (b, k)
      | _, _, _ => none
    | _ => none
  | none => none
theorem runs_strIdx {b : ByteArray} {k : Int} (hk : 0 ≤ k ∧ k < (b.size : Int)) (hq : strIdxQ P ops i s = some (b, k)) : RunsTo P ops i s w (.int .u8 (sbyte b k)) w := by
  unfold strIdxQ at hq
  split at hq
  · rename_i o ho
    split at hq
    · rename_i t x y hop
      refine ⟨_, ho, ?_⟩
      split at hq
      · rename_i b' kk k' hu hx hy
        simp only [Option.some.injEq, Prod.mk.injEq] at hq
        obtain ⟨rfl, rfl⟩ := hq
        have hun := run_underlying (P := P) hu w
        have hn : k'.toNat < b'.size := by omega
        have hg : b'[k'.toNat]? = some b'[k'.toNat] := getElem?_pos b' _ hn
        simp only [execOp, hop, hx, hy, Instr.index, asIntOf, Sem.run_bind, Sem.run_pure, Result.andThen_ok, hun, if_pos hk.1, hg, sbyte, Option.getD_some]
      · cases hq
    · cases hq
  · cases hq
end
section
variable {α : Type} (K : Kind α) {M : Bool} {P : Program} {ops : Array Oper} {i : Nat} {s : Fs} {w : World} {Q : Fs → World → Prop} {B : Nat} {w0 : World} {l0 : List Nat} {H R : List Asn}
end
end Go.Proofs.Ytmmclabkkigiaaa

namespace Go.Proofs.Ytmmclabkkigiaaa
open Go Go.RowKit
def strNums (s : ByteArray) : List Int := s.data.toList.map fun b => (b.toNat : Int)
section
variable {M : Bool} {P : Program} {ops : Array Oper} {i : Nat} {s : Fs} {w : World} {K : Fs → World → Prop}
def strBytesQ (P : Program) (ops : Array Oper) (i : Nat) (s : Fs) : Option (ByteArray × TypeId) :=
  match opQ ops i s with
  | some o => match o.op with
    | .convert src dst x => match P.underlying src, P.underlying dst, evS s x with
      | some .string, some (.slice e), .string b => match P.underlying e with
        | some (.int .u8) => some (b, e)
        | _ => none
      | _, _, _ => none
    | _ => none
  | none => none
theorem ops_strBytes {B : Nat} {w0 : World} {l0 : List Nat} {R : List Asn} {b : ByteArray} {e : TypeId} (hs : St B w0 l0 w R) (hq : strBytesQ P ops i s = some (b, e))
    (hk : ∀ (n c : Nat) (C : Array Value) (w' : World), b.size ≤ c → (∀ j, j < b.size → C[j]? = some (.int .u8 ((strNums b).getD j 0))) → St B w0 l0 w' (blk n (.cells C e (C.size, C.size + 1)) :: R) →
      OpsAt M P ops (i + 1) (putS s (dstOf ops i) (.slice (some ⟨n, 0, none⟩) b.size c)) w' K) : OpsAt M P ops i s w K := by
  unfold strBytesQ at hq
  split at hq
  · rename_i o ho
    split at hq
    · rename_i src dst x hop
      split at hq
      · rename_i e' b' hsrc hdst hx
        split at hq
        · rename_i he
          simp only [Option.some.injEq, Prod.mk.injEq] at hq
          obtain ⟨rfl, rfl⟩ := hq
          have hr := Lib.run_convert_string_bytes (P := P) w src dst e' b' hsrc hdst he
          have hB := hs.size
          refine ops_runs ho (v := .slice (some ⟨w.heap.size, 0, none⟩) b'.size (grownCap w b'.size 0 e')) (w' := Lib.bytesWorld w e' b') ?_ (hk _ _ (Lib.bytesCells w e' b') _ ?_ ?_ ?_)
          · simp only [execOp, hop, hx, Sem.run_bind, Result.andThen_ok, Sem.run_pure, hr]
          · exact grownCap_ge w b'.size 0 e'
          · intro j hj
            have := Lib.bytesWorld_cell w e' b' j hj
            have hn := Lib.bytesWorld_at_new w e' b'
            simp only [World.cell?, hn] at this
            simpa [strNums, List.getD, hj] using this
          · refine St.step0 (post := [blk w.heap.size (.cells (Lib.bytesCells w e' b') e' ((Lib.bytesCells w e' b').size, (Lib.bytesCells w e' b').size + 1))]) hs ⟨[w.heap.size], ⟨[w.heap.size], [], ⟨hB, Lib.bytesWorld_at_new w e' b', rfl⟩, fun b => by simp, fun b _ => by simp, by simp⟩, ?_⟩
            refine ⟨by simp [Lib.bytesWorld, World.freeze, World.alloc, World.drew, -World.alloc_eq, -World.drew_eq], by simp [Lib.bytesWorld, World.freeze, World.alloc, World.drew, -World.alloc_eq, -World.drew_eq], by simp [Lib.bytesWorld, World.freeze, World.alloc, World.drew, -World.alloc_eq, -World.drew_eq], by rw [Lib.bytesWorld_size]; omega, fun b hb _ => Lib.bytesWorld_at_old w e' b' b hb, fun b hb => .inr ?_⟩
            simp only [List.mem_singleton] at hb
            omega
        · cases hq
      · cases hq
    · cases hq
  · cases hq
end
def partN (n k : Nat) : Nat := if n - 8 * k < 8 then n - 8 * k else 8
theorem part_pos {n k : Nat} (h : 8 * k < n) : 0 < partN n k ∧ partN n k ≤ 8 ∧ 8 * k + partN n k ≤ n ∧ (8 * k + partN n k = n ∨ partN n k = 8) := by
  unfold partN; split <;> omega
end Go.Proofs.Ytmmclabkkigiaaa

namespace Go.Proofs.Ytmmclabkkigiaaa
open Go Go.RowKit Go.Shelf
theorem Spec.ofBelow {P : Program} {f : FuncId} {args : Array Value} {B : Nat} {w : World} {v : Value} (h : Calls P f args w fun e w' => e = .returned v ∧ Below w.heap.size w w') : Spec P f args B w [] (fun u H' => u = v ∧ H' = []) :=
  fun l hB hs => h.mono fun e w' ⟨he, hb⟩ => ⟨v, he, [], [], ⟨rfl, rfl⟩, fun _ h => (by cases h), ⟨hb.os, hb.tape, hb.output, hb.size, fun b h1 _ => hb.block b h1, fun b h => (by cases h)⟩⟩
def badB (s : ByteArray) : Bool := Lib.containsAny s.data.toList [47, 0]
theorem anyB : ∀ l : List UInt8, Lib.containsAny l [47, 0] = l.any fun b => b == 47 || b == 0
  | [] => rfl
  | b :: l => by
    have ih := anyB l
    have hge := Lib.indexAny_ge [47, 0] l
    unfold Lib.containsAny at *
    rw [List.any_cons, ← ih, Lib.indexAny]
    have hc : ([47, 0] : List UInt8).contains b = (b == 47 || b == 0) := by simp only [List.contains_cons, List.contains_nil, Bool.or_false]
    rw [hc]
    cases hb : (b == 47 || b == 0) with
    | true => simp
    | false =>
      rw [if_neg (by decide), Bool.false_or]
      by_cases e : Lib.indexAny l [47, 0] = -1
      · rw [e]; decide
      · rw [if_neg (by simpa using e)]
        exact decide_eq_decide.2 (by omega)
theorem badB_iff {s : ByteArray} : badB s = true ↔ ∃ j, j < s.size ∧ ((strNums s).getD j 0 = 47 ∨ (strNums s).getD j 0 = 0) := by
  unfold badB
  rw [anyB, List.any_eq_true]
  constructor
  · rintro ⟨b, hb, hc⟩
    obtain ⟨j, hj, e⟩ := List.getElem_of_mem hb
    have hj2 : j < s.size := by rw [Array.length_toList] at hj; exact hj
    refine ⟨j, hj2, ?_⟩
    have eg : (strNums s).getD j 0 = (b.toNat : Int) := by
      unfold strNums
      simp only [List.getD, List.getElem?_map, List.getElem?_eq_getElem hj, Option.map_some, Option.getD_some, e]
    rw [eg]
    simp only [Bool.or_eq_true, beq_iff_eq] at hc
    rcases hc with rfl | rfl
    · exact .inl rfl
    · exact .inr rfl
  · rintro ⟨j, hj, hc⟩
    have hj2 : j < s.data.toList.length := by rw [Array.length_toList]; exact hj
    refine ⟨s.data.toList[j], List.getElem_mem hj2, ?_⟩
    have eg : (strNums s).getD j 0 = ((s.data.toList[j]).toNat : Int) := by
      unfold strNums
      simp only [List.getD, List.getElem?_map, List.getElem?_eq_getElem hj2, Option.map_some, Option.getD_some]
    rw [eg] at hc
    simp only [Bool.or_eq_true, beq_iff_eq]
    rcases hc with hc | hc
    · exact .inl (UInt8.toNat_inj.1 (by have : (47 : UInt8).toNat = 47 := rfl; omega))
    · exact .inr (UInt8.toNat_inj.1 (by have : (0 : UInt8).toNat = 0 := rfl; omega))
theorem cany_spec {s : ByteArray} (hs : s.size < 4294967281) (B : Nat) (w : World) : Spec Try.prog 24 #[.string s, .string (ByteArray.mk #[47, 0])] B w [] (fun v H' => v = .bool (badB s) ∧ H' = []) :=
  Spec.ofBelow (cany2 strLays150 (by kernel_rfl) s w hs)
end Go.Proofs.Ytmmclabkkigiaaa

namespace Go.Proofs.Ytmmclabkkigiaaa
open Go Go.RowKit
def need {α : Type} (p : Prop) [Decidable p] (x : Option α) : Option α := if p then x else none
theorem need_some {α : Type} {p : Prop} {inst : Decidable p} {x : Option α} {r : α} (h : @need α p inst x = some r) : p ∧ x = some r := by
  unfold need at h
  split at h
  · rename_i hp; exact ⟨hp, h⟩
  · cases h
theorem need_of {α : Type} {p : Prop} {inst : Decidable p} {x y : Option α} (hp : p) (h : x = y) : @need α p inst x = y := by
  unfold need; rw [if_pos hp]; exact h
theorem ite_yes {α : Type} {p : Prop} {inst : Decidable p} {a b x : α} (e : @ite α p inst a b = x) (h : p) : a = x := by rw [if_pos h] at e; exact e
theorem ite_no {α : Type} {p : Prop} {inst : Decidable p} {a b x : α} (e : @ite α p inst a b = x) (h : ¬ p) : b = x := by rw [if_neg h] at e; exact e
theorem bind_some {α β : Type} {o : Option α} {f : α → Option β} {r : β} (h : o.bind f = some r) : ∃ y, o = some y ∧ f y = some r := by
  cases o with
  | none => cases h
  | some y => exact ⟨y, rfl, h⟩
theorem bind_of {α β : Type} {o : Option α} {f : α → Option β} {y : α} {r : Option β} (h : o = some y) (h2 : f y = r) : o.bind f = r := by
  subst h; exact h2
def iter {σ ρ : Type} (body : (σ → Option ρ) → σ → Option ρ) : Nat → σ → Option ρ
  | 0, _ => none
  | n + 1, s => body (iter body n) s
def FUEL : Nat := 18446744073709551616
theorem iter_run {σ ρ : Type} {body : (σ → Option ρ) → σ → Option ρ} {r : ρ} (I : σ → Prop) (μ : σ → Nat) (step : ∀ (k : σ → Option ρ) (s : σ), I s → (∀ s', I s' → μ s' < μ s → k s' = some r) → body k s = some r) :
    ∀ (n : Nat) (s : σ), I s → μ s < n → iter body n s = some r := by
  intro n
  induction n with
  | zero => intro s _ h; omega
  | succ n ih =>
    intro s hs hm
    exact step _ s hs fun s' hs' hlt => ih s' hs' (by omega)
def Ok {ρ : Type} (R : ρ → Prop) (x : Option ρ) : Prop := ∃ r, x = some r ∧ R r
section
variable {α ρ σ : Type} {R : ρ → Prop}
theorem Ok.some {r : ρ} (h : R r) : Ok R (some r) := ⟨r, rfl, h⟩
theorem Ok.need {p : Prop} {inst : Decidable p} {x : Option ρ} (hp : p) (h : Ok R x) : Ok R (@Go.Proofs.Ytmmclabkkigiaaa.need ρ p inst x) := by
  obtain ⟨r, hx, hr⟩ := h
  exact ⟨r, need_of hp hx, hr⟩
theorem Ok.bind {S : α → Prop} {o : Option α} {f : α → Option ρ} (h : Ok S o) (hf : ∀ y, S y → Ok R (f y)) : Ok R (o.bind f) := by
  obtain ⟨y, rfl, hy⟩ := h
  exact hf y hy
theorem Ok.name {e : α} {f : α → Option ρ} (hf : ∀ y, y = e → Ok R (f y)) : Ok R ((Option.some e).bind f) := hf e rfl
theorem Ok.ite {p : Prop} {inst : Decidable p} {a b : Option ρ} (h1 : p → Ok R a) (h2 : ¬ p → Ok R b) : Ok R (@_root_.ite (Option ρ) p inst a b) := by
  by_cases h : p
  · rw [if_pos h]; exact h1 h
  · rw [if_neg h]; exact h2 h
theorem Ok.yes {p : Prop} {inst : Decidable p} {a b : Option ρ} (h : p) (h1 : Ok R a) : Ok R (@_root_.ite (Option ρ) p inst a b) := by rw [if_pos h]; exact h1
theorem Ok.no {p : Prop} {inst : Decidable p} {a b : Option ρ} (h : ¬ p) (h1 : Ok R b) : Ok R (@_root_.ite (Option ρ) p inst a b) := by rw [if_neg h]; exact h1
theorem Ok.mono {R' : ρ → Prop} {x : Option ρ} (h : Ok R x) (hr : ∀ r, R r → R' r) : Ok R' x := let ⟨r, h1, h2⟩ := h; ⟨r, h1, hr r h2⟩
theorem Ok.true {x : Option Bool} (h : Ok (· = true) x) : x = Option.some true := by
  obtain ⟨r, h1, h2⟩ := h
  rw [h1, h2]
theorem Ok.iter {body : (σ → Option ρ) → σ → Option ρ} (I : σ → Prop) (μ : σ → Nat) (step : ∀ (k : σ → Option ρ) (s : σ), I s → (∀ s', I s' → μ s' < μ s → Ok R (k s')) → Ok R (body k s)) :
    ∀ (n : Nat) (s : σ), I s → μ s < n → Ok R (Go.Proofs.Ytmmclabkkigiaaa.iter body n s) := by
  intro n
  induction n with
  | zero => intro s _ h; omega
  | succ n ih =>
    intro s hs hm
    exact step _ s hs fun s' hs' hlt => ih s' hs' (by omega)
end
theorem fuel_lt {n : Nat} (h : n < 18446744073709551616) : n < FUEL := h
section
variable {P : Program} {c x y : Code} {s : Fs} {w : World} {Q : Exit → Fs → World → Prop}
theorem W.seq_join (J : Fs → World → Prop) (hy : ∀ s w, J s w → W P y s w Q) (hx : W P x s w (seqQ J Q)) : W P (.seq x y) s w Q := by
  refine W.seq fun K hK => hx.mono ?_
  intro e s w h
  cases e with
  | normal => exact hK _ _ (hy _ _ h)
  | _ => exact h
theorem W.norm {n : Nat} {l : List (Nat × Value)} (h : ((s.n, s.r, s.d), l.map fun p => s.f p.1) = ((n, none, []), l.map (·.2))) (hk : ∀ us, W P c (slots n l us) w Q) : W P c s w Q := by
  obtain ⟨us, rfl⟩ := slots_intro s h
  exact hk us
theorem W.loop_iter {G σ ρ : Type} {body : (σ → Option ρ) → σ → Option ρ} {r : ρ} {n : Nat} (T : G → σ) (J : G → Fs → World → Prop) (g : G) (h0 : J g s w) (hm : iter body n (T g) = some r)
    (round : ∀ k : σ → Option ρ, (∀ g s w, J g s w → k (T g) = some r → LoopAt P c Q s w) → ∀ g s w, J g s w → body k (T g) = some r → W P c s w (seqQ (fun s' w' => LoopAt P c Q s' w') Q)) : W P (.loop c) s w Q := by
  refine W.loop_start ?_
  have key : ∀ (n : Nat) (g : G) (s : Fs) (w : World), J g s w → iter body n (T g) = some r → LoopAt P c Q s w := by
    intro n
    induction n with
    | zero => intro g s w _ h; cases h
    | succ n ih =>
      intro g s w hj h
      exact loopAt_round (round _ ih g s w hj h)
  exact key n g s w h0 hm
end
theorem wrap_u8_mod (z : Int) : IntKind.u8.wrap z = z % 256 := by
  have e : (2 : Int) ^ IntKind.u8.bits = 256 := by decide
  unfold IntKind.wrap
  simp only [e, IntKind.signed, Bool.false_and, Bool.false_eq_true, if_false]
theorem nat_of {z : Int} (h : 0 ≤ z) : z = ((z.toNat : Nat) : Int) := (Int.toNat_of_nonneg h).symm
theorem lt_toNat {z : Int} {n : Nat} (h : 0 ≤ z ∧ z < (n : Int)) : z.toNat < n := by omega
theorem le_toNat {z : Int} {n : Nat} (h : 0 ≤ z ∧ z ≤ (n : Int)) : z.toNat ≤ n := by omega
theorem some_inj {α : Type} {a b : α} (h : some a = some b) : a = b := Option.some.inj h
abbrev elem {α : Type} (l : List α) (z : Int) (d : α) : α := l.getD z.toNat d
end Go.Proofs.Ytmmclabkkigiaaa

namespace Go.Proofs.Ytmmclabkkigiaaa
open Go Go.RowKit
section
variable {M : Bool} {P : Program} {ops : Array Oper} {i : Nat} {s : Fs} {w : World} {K : Fs → World → Prop} {Q : Exit → Fs → World → Prop}
theorem zE (n : Nat) (hk : K (runS P ops n i s w) w) (h : (runN P ops n i s w).map (·.2) = some w := by kernel_rfl) (hd : ops.size = i + n := by kernel_rfl) : OpsAt M P ops i s w K := ops_run n h (ops_done hd hk)
theorem zD (hk : K s w) (hd : ops.size = i := by kernel_rfl) : OpsAt M P ops i s w K := ops_done hd hk
theorem zR (n : Nat) (hk : OpsAt M P ops (i + n) (runS P ops n i s w) w K) (h : (runN P ops n i s w).map (·.2) = some w := by kernel_rfl) : OpsAt M P ops i s w K := ops_run n h hk
theorem zS (j : Nat) {b b' : Bool} (hb : b = b') (hk : OpsAt M P ops i (s.set j (.bool b')) w K) (h : s.f j = .bool b := by kernel_rfl) : OpsAt M P ops i s w K := ops_set j (eq_bool_of h hb) hk
theorem zI {k : IntKind} (x : Int) (hb : k.wrap x = x) (hk : OpsAt M P ops (i + 1) (putS s (dstOf ops i) (.int k x)) w K) (h : valQ P ops i s w = some (.int k (k.wrap x), w) := by kernel_rfl) : OpsAt M P ops i s w K := ops_val h (congrArg (Value.int k) hb) hk
theorem zL (ad : Addr) (v : Value) (hc : w.cell? ad = some v) (hk : OpsAt M P ops (i + 1) (putS s (dstOf ops i) v) w K) (h : loadQ P ops i s = some ad := by kernel_rfl) : OpsAt M P ops i s w K := ops_R (runs_load h hc) hk
theorem zN {B : Nat} {w0 : World} {l0 : List Nat} {R : List Asn} (cs : List Value) (t : TypeId) (hs : St B w0 l0 w R) (hk : ∀ b w', St B w0 l0 w' (blk b (.cells cs.toArray t (0, 0)) :: R) → OpsAt M P ops (i + 1) (putS s (dstOf ops i) (.pointer (some ⟨b, 0, none⟩))) w' K)
    (hq : valQ P ops i s w = some ((fun b => .pointer (some ⟨b, 0, none⟩)) w.heap.size, w.alloc (.cells cs.toArray t (0, 0))) := by kernel_rfl) : OpsAt M P ops i s w K := ops_new (fun b => .pointer (some ⟨b, 0, none⟩)) _ hs hq hk
theorem W.sr {id : Nat} {ops : Array Oper} {y : Code} (h : ∀ K : Fs → World → Prop, (∀ s w, W P y s w Q → K s w) → OpsAt true P ops 0 s w (seqQ K Q .normal)) : W P (.seq (.region id ops false) y) s w Q := W.seq fun K hK => W.region (h K hK)
end
theorem iY {α : Type} {p : Prop} {d inst : Decidable p} {a b x : α} (e : @ite α p inst a b = x) (h : @decide p d = true) : p ∧ a = x := ⟨@of_decide_eq_true p d h, ite_yes e (@of_decide_eq_true p d h)⟩
theorem iN {α : Type} {p : Prop} {d inst : Decidable p} {a b x : α} (e : @ite α p inst a b = x) (h : @decide p d = false) : ¬ p ∧ b = x := ⟨@of_decide_eq_false p d h, ite_no e (@of_decide_eq_false p d h)⟩
section
variable {M : Bool} {P : Program} {ops : Array Oper} {i : Nat} {s : Fs} {w : World} {K : Fs → World → Prop} {B : Nat} {w0 : World} {l0 : List Nat} {R : List Asn} {f : FuncId} {args : Array Value} {V : Value} {a0 a1 a2 a3 b0 b1 b2 b3 : Asn}
theorem zC00 (hs : St B w0 l0 w R) (hc : Spec P f args B w [] (fun v H' => v = V ∧ H' = [])) (hk : ∀ w', St B w0 l0 w' R → OpsAt M P ops (i + 1) (putS s (dstOf ops i) V) w' K) (hq : callQ P ops i s w = some (f, args, w) := by kernel_rfl) : OpsAt M P ops i s w K :=
  ops_call (pre := []) hs hq hc fun v H' w' h h' => by obtain ⟨rfl, rfl⟩ := h; exact hk w' h'
theorem zC11 (hs : St B w0 l0 w (a0 :: R)) (hc : Spec P f args B w [a0] (fun v H' => v = V ∧ H' = [b0])) (hk : ∀ w', St B w0 l0 w' (b0 :: R) → OpsAt M P ops (i + 1) (putS s (dstOf ops i) V) w' K) (hq : callQ P ops i s w = some (f, args, w) := by kernel_rfl) : OpsAt M P ops i s w K :=
  ops_call (pre := [a0]) hs hq hc fun v H' w' h h' => by obtain ⟨rfl, rfl⟩ := h; exact hk w' h'
theorem zC22 (hs : St B w0 l0 w (a0 :: a1 :: R)) (hc : Spec P f args B w [a0, a1] (fun v H' => v = V ∧ H' = [b0, b1])) (hk : ∀ w', St B w0 l0 w' (b0 :: b1 :: R) → OpsAt M P ops (i + 1) (putS s (dstOf ops i) V) w' K) (hq : callQ P ops i s w = some (f, args, w) := by kernel_rfl) : OpsAt M P ops i s w K :=
  ops_call (pre := [a0, a1]) hs hq hc fun v H' w' h h' => by obtain ⟨rfl, rfl⟩ := h; exact hk w' h'
end
abbrev zi (x : Int) : Value := .int .i64 x
abbrev zu (x : Int) : Value := .int .u64 x
abbrev zp (b : Nat) : Value := .pointer (some ⟨b, 0, none⟩)
abbrev zb (b : Nat) (t : TypeId) (l : List Value) : Asn := blk b (.cells l.toArray t (0, 0))
section
variable {M : Bool} {P : Program} {ops : Array Oper} {i : Nat} {s : Fs} {w : World} {K : Fs → World → Prop} {B : Nat} {w0 : World} {l0 : List Nat} {R : List Asn} {b : Nat} {t : TypeId} {cs : List Value}
theorem zT (off : Nat) (vs cs' : List Value) (hs : St B w0 l0 w (blk b (.cells cs.toArray t (0, 0)) :: R)) (hk : ∀ w', St B w0 l0 w' (blk b (.cells cs'.toArray t (0, 0)) :: R) → OpsAt M P ops (i + 1) (putS s (dstOf ops i) undef) w' K)
    (hq : storeQ P ops i s = some (⟨b, off, none⟩, vs) := by kernel_rfl) (hl : off + vs.length ≤ cs.length := by simp) (hv : vs.all Value.oneCell' = true := by rfl) (he : writeAt cs off vs = cs' := by rfl) : OpsAt M P ops i s w K := by
  subst he
  exact ops_store hs hq hl hv hk
theorem zG (ad : Addr) (vs : List Value) (hc : ∀ j v, vs[j]? = some v → w.cell? (ad.add j) = some v) (hk : OpsAt M P ops (i + 1) (putS s (dstOf ops i) (.agg vs.toArray)) w K) (hq : loadAggQ P ops i s = some (ad, vs.length) := by kernel_rfl) : OpsAt M P ops i s w K := ops_R (runs_loadAgg hq hc) hk
end
section
variable {P : Program} {ops : Array Oper} {T : List (Nat × Nat)} {S : World → Prop} {fuel L : Nat} {s : Fs} {w : World} {K : Fs → World → Prop}
theorem zA (v : Value) (i : Nat) (hS : S w) (h : AnyAt P ops T S fuel (Nat.lor L (Nat.shiftLeft 1 i)) (putS s (dstOf ops i) v) w K) (hb : takeB T i L = true := by kernel_rfl) (hr : ∀ w', valVQ P ops i s w' = some (v, w') := by intro _; kernel_rfl) : AnyAt P ops T S (fuel + 1) L s w K := any_val i hb hr rfl hS h
theorem zB (i : Nat) (ad : Addr) (v : Value) (hc : ∀ w', S w' → w'.cell? ad = some v) (hS : S w) (h : AnyAt P ops T S fuel (Nat.lor L (Nat.shiftLeft 1 i)) (putS s (dstOf ops i) v) w K) (hb : takeB T i L = true := by kernel_rfl) (hq : loadQ P ops i s = some ad := by kernel_rfl) : AnyAt P ops T S (fuel + 1) L s w K := any_R i hb (fun w' h' => runs_load hq (hc w' h')) hS h
end
end Go.Proofs.Ytmmclabkkigiaaa

set_option maxRecDepth 20000
set_option maxHeartbeats 1000000
namespace Go.Proofs.Ytmmclabkkigiaaa
open Go Go.RowKit
def emay_M (tx_ : ByteArray) : Option (Bool) :=
 if (tx_.size : Int) ≥ 1 then (if (tx_.size : Int) ≤ 40 then (need (tx_.size < 4294967281) <|
if (badB tx_) = true then (some false) else (if (tx_.toList == (ByteArray.mk #[46]).toList) = true then (some false) else (some (!(tx_.toList == (ByteArray.mk #[46, 46]).toList))))) else (some false)) else (some false)
theorem emay_walk {tx_ : ByteArray}  {r : Bool} (B : Nat) (w : World) (hm : emay_M tx_ = some r) : Spec Try.prog 12 #[(.string tx_)] B w [] (fun v H' => v = .bool r ∧ H' = []) := by
 refine spec_Q Try.func12 rfl fun hs => ?_
 unfold emay_M at hm
 refine W.sr fun K1 hK1 => ?_
 refine zE 1 (hK1 _ _ ?_)
 refine W.sr fun K2 hK2 => ?_
 refine zR 4 ?_
 rcases Bool.eq_false_or_eq_true (decide ((tx_.size : Int) ≥ 1)) with h3 | h3
 ·
  obtain ⟨h3p, hm⟩ := iY hm h3
  refine zS 6 h3 ?_
  refine zS 5 h3 ?_
  refine zR 5 ?_
  rcases Bool.eq_false_or_eq_true (decide ((tx_.size : Int) ≤ 40)) with h4 | h4
  ·
   obtain ⟨h4p, hm⟩ := iY hm h4
   refine zS 11 h4 ?_
   refine zS 9 h4 ?_
   refine zS 10 h4 ?_
   refine zR 1 ?_
   obtain ⟨h5, hm⟩ := need_some hm
   refine zC00 hs (cany_spec (s := tx_) (hs := h5) B _) fun w6 hs8 => ?_
   refine zR 3 ?_
   rcases Bool.eq_false_or_eq_true (!(badB tx_)) with h9 | h9
   rotate_left
   ·
    have h9p : (badB tx_) = true := (bnot_false h9)
    replace hm := ite_yes hm h9p
    refine zS 16 h9 ?_
    refine zS 14 h9 ?_
    refine zS 15 h9 ?_
    refine zE 8 (hK2 _ _ ?_)
    refine W.ret ?_
    obtain rfl := some_inj hm
    refine ret_of (.bool false) (by kernel_rfl) ⟨_, ⟨rfl, rfl⟩, hs8⟩
   have h9p : ¬ ((badB tx_) = true) := ne_true_of_eq_false (bnot_true h9)
   replace hm := ite_no hm h9p
   refine zS 16 h9 ?_
   refine zS 14 h9 ?_
   refine zS 15 h9 ?_
   refine zR 4 ?_
   rcases Bool.eq_false_or_eq_true (!(tx_.toList == (ByteArray.mk #[46]).toList)) with h10 | h10
   rotate_left
   ·
    have h10p : (tx_.toList == (ByteArray.mk #[46]).toList) = true := (bnot_false h10)
    replace hm := ite_yes hm h10p
    refine zS 20 h10 ?_
    refine zS 18 h10 ?_
    refine zS 19 h10 ?_
    refine zE 4 (hK2 _ _ ?_)
    refine W.ret ?_
    obtain rfl := some_inj hm
    refine ret_of (.bool false) (by kernel_rfl) ⟨_, ⟨rfl, rfl⟩, hs8⟩
   have h10p : ¬ ((tx_.toList == (ByteArray.mk #[46]).toList) = true) := ne_true_of_eq_false (bnot_true h10)
   replace hm := ite_no hm h10p
   refine zS 20 h10 ?_
   refine zS 18 h10 ?_
   refine zS 19 h10 ?_
   refine zE 4 (hK2 _ _ ?_)
   refine W.ret ?_
   obtain rfl := some_inj hm
   refine ret_of (.bool (!(tx_.toList == (ByteArray.mk #[46, 46]).toList))) (by kernel_rfl) ⟨_, ⟨rfl, rfl⟩, hs8⟩
  obtain ⟨h4p, hm⟩ := iN hm h4
  refine zS 11 h4 ?_
  refine zS 9 h4 ?_
  refine zS 10 h4 ?_
  refine zE 13 (hK2 _ _ ?_)
  refine W.ret ?_
  obtain rfl := some_inj hm
  refine ret_of (.bool false) (by kernel_rfl) ⟨_, ⟨rfl, rfl⟩, hs⟩
 obtain ⟨h3p, hm⟩ := iN hm h3
 refine zS 6 h3 ?_
 refine zS 5 h3 ?_
 refine zE 18 (hK2 _ _ ?_)
 refine W.ret ?_
 obtain rfl := some_inj hm
 refine ret_of (.bool false) (by kernel_rfl) ⟨_, ⟨rfl, rfl⟩, hs⟩
end Go.Proofs.Ytmmclabkkigiaaa

namespace Go.Proofs.Ytmmclabkkigiaaa
open Go Go.RowKit
section
variable {M : Bool} {P : Program} {ops : Array Oper} {i : Nat} {s : Fs} {w w' : World} {K : Fs → World → Prop}
def mkQ (P : Program) (ops : Array Oper) (i : Nat) (s : Fs) : Option (TypeId × Int × Int × Nat × Nat × List Value) :=
  match opQ ops i s with
  | some o => match o.op with
    | .makeSlice t x y => match P.underlying t, evS s x, evS s y with
      | some (.slice e), .int _ l, .int _ c => match P.info? e with
        | some f => match f.zero with
          | some z => some (e, l, c, f.size, f.bytes, z.cells.toList)
          | none => none
        | none => none
      | _, _, _ => none
    | _ => none
  | none => none
theorem flatMap_replicate {α : Type} (n : Nat) (d : α) (f : α → List Value) : (List.replicate n d).flatMap f = (List.replicate n (f d)).flatten := by
  induction n with
  | zero => rfl
  | succ n ih => simp [List.replicate_succ, ih]
theorem made_list (zs : Array Value) (hz : 0 < zs.size) : ∀ n : Nat, (madeCells zs (n * zs.size)).toList = (List.replicate n zs.toList).flatten := by
  intro n
  refine List.ext_getElem ?_ fun j h1 h2 => ?_
  · simp [madeCells]
  · have hj : j < n * zs.size := by simpa [madeCells] using h1
    have hi : j / zs.size < n := Nat.div_lt_of_lt_mul (by rw [Nat.mul_comm]; exact hj)
    have hm : j % zs.size < zs.size := Nat.mod_lt _ hz
    simp only [madeCells, Array.getElem_toList, Array.getElem_map, Array.getElem_range]
    clear h1
    induction n generalizing j with
    | zero => simp at hj
    | succ n ih =>
      simp only [List.replicate_succ, List.flatten_cons]
      by_cases hlt : j < zs.size
      · rw [List.getElem_append_left (by simpa using hlt), Nat.mod_eq_of_lt hlt]
        simp [hlt]
      · rw [List.getElem_append_right (by simpa using hlt)]
        have e1 : (j - zs.toList.length) % zs.size = j % zs.size := by
          rw [Array.length_toList, ← Nat.mod_eq_sub_mod (by omega)]
        have hj' : j - zs.toList.length < n * zs.size := by rw [Array.length_toList]; rw [Nat.add_mul] at hj; omega
        have h := ih (j - zs.toList.length) (by simpa using hj') hj' (Nat.div_lt_of_lt_mul (by rw [Nat.mul_comm]; exact hj')) (Nat.mod_lt _ hz)
        rw [← h, e1]
theorem ops_makeSlice {α : Type} (Kd : Kind α) (d : α) {B : Nat} {w0 : World} {l0 : List Nat} {R : List Asn} {z : Int} (n : Nat) {bytes : Nat} (hz : z = (n : Int)) (hs : St B w0 l0 w R)
    (hq : mkQ P ops i s = some (Kd.e, z, z, Kd.size, bytes, Kd.elem d)) (hb : bytes * n ≤ 281474976710656) (hm : n ≤ maxLen)
    (hk : ∀ b w', St B w0 l0 w' (Kd.row (some ⟨b, 0, none⟩) n (List.replicate n d) :: R) → OpsAt M P ops (i + 1) (putS s (dstOf ops i) (.slice (some ⟨b, 0, none⟩) n n)) w' K) : OpsAt M P ops i s w K := by
  subst hz
  unfold mkQ at hq
  split at hq
  · rename_i o ho
    split at hq
    · rename_i t x y hop
      split at hq
      · rename_i e q1 l q2 c hu hx hy
        split at hq
        · rename_i f hi
          split at hq
          · rename_i zz hzz
            simp only [Option.some.injEq, Prod.mk.injEq] at hq
            obtain ⟨rfl, rfl, rfl, hsz, rfl, hcs⟩ := hq
            have hB := hs.size
            obtain ⟨w', hr, hown, hgr⟩ := run_make_full (P := P) w B t Kd.e f zz Kd.size hu hi hzz hsz q1 q2 n hb hm hB
            have hzs : zz.cells.size = Kd.size := by rw [← Array.length_toList, hcs, Kd.elen]
            have hlist : (madeCells zz.cells (n * Kd.size)).toList = Kd.cells (List.replicate n d) := by
              rw [← hzs, made_list _ (by rw [hzs]; exact Kd.pos), hcs]
              exact (flatMap_replicate n d Kd.elem).symm
            rw [hlist] at hown
            refine ops_runs ho (v := .slice (some ⟨w.heap.size, 0, none⟩) n n) (w' := w') ?_ (hk _ _ ?_)
            · simp only [execOp, hop, hx, hy, Sem.run_bind, Result.andThen_ok, Sem.run_pure, hr]
            · refine St.step0 (post := [Kd.row (some ⟨w.heap.size, 0, none⟩) n (List.replicate n d)]) hs ⟨[w.heap.size], ⟨[w.heap.size], [], ⟨?_, rfl⟩, fun b => by simp, fun b _ => by simp, by simp⟩, ?_⟩
              · simpa using hown
              · refine ⟨hgr.os, hgr.tape, hgr.output, hgr.size, fun b hb _ => hgr.block b hb (by simp), fun b hb => .inr ?_⟩
                simp only [List.mem_singleton] at hb
                subst hb
                exact Nat.le_refl _
          · cases hq
        · cases hq
      · cases hq
    · cases hq
  · cases hq
end
end Go.Proofs.Ytmmclabkkigiaaa

namespace Go.Proofs.Ytmmclabkkigiaaa
open Go Go.RowKit
section
variable {M : Bool} {P : Program} {ops : Array Oper} {T : List (Nat × Nat)} {S : World → Prop} {s : Fs} {w : World} {K : Fs → World → Prop}
theorem any_step2 (i j : Nat) {fuel : Nat} {L : Nat} (hr : readyM T L = [i, j]) (hi' : (opQ ops i s).isSome = true) (hj' : (opQ ops j s).isSome = true)
    (hi : OpsAt false P (alone ops i) 0 s w (fun s' w' => S w' ∧ AnyAt P ops T S fuel (Nat.lor L (Nat.shiftLeft 1 i)) s' w' K))
    (hj : OpsAt false P (alone ops j) 0 s w (fun s' w' => S w' ∧ AnyAt P ops T S fuel (Nat.lor L (Nat.shiftLeft 1 j)) s' w' K)) : AnyAt P ops T S (fuel + 1) L s w K := by
  refine any_steps [i, j] hr (by simp) ?_ ?_
  · intro k hk
    simp only [List.mem_cons, List.not_mem_nil, or_false] at hk
    rcases hk with rfl | rfl
    · exact hi'
    · exact hj'
  · intro k hk
    simp only [List.mem_cons, List.not_mem_nil, or_false] at hk
    rcases hk with rfl | rfl
    · exact hi
    · exact hj
end
end Go.Proofs.Ytmmclabkkigiaaa

set_option maxRecDepth 20000
namespace Go.Proofs.Ytmmclabkkigiaaa
open Go Go.RowKit
theorem len_spec {p : Value} {img : List Int} {l : List (Int × Int)} (B : Nat) (w : World) (hv : ViewAt p img l w) : Spec Try.prog 43 #[p] B w [] (fun v H' => v = .int .i64 (img.length : Int) ∧ H' = []) := by
 refine spec_Q Try.func43 rfl fun hs => ?_
 have hv0 := hv
 obtain ⟨x, rfl, hok, hb, hi, hm, ho, hcap⟩ := hv
 refine W.sr fun K1 hK1 => ?_
 refine zE 1 (hK1 _ _ ?_)
 refine W.seq fun K2 hK2 => ?_
 refine W.sr fun K3 hK3 => ?_
 refine zE 2 (hK3 _ _ ?_)
 refine W.cond_false false (by kernel_rfl) rfl ?_
 refine W.skip ?_
 refine hK2 _ _ ?_
 refine W.sr fun K4 hK4 => ?_
 refine zR 3 ?_
 refine zL ⟨x.b, 0, none⟩ (.slice x.ia img.length x.ic) (cell_of_blk (hs.old hb) rfl) ?_
 refine zE 2 (hK4 _ _ ?_)
 refine W.ret ?_
 refine ret_of (zi (img.length : Int)) (by kernel_rfl) ⟨_, ?_, hs⟩
 exact ⟨rfl, rfl⟩
theorem has_spec {p : Value} {img : List Int} {l : List (Int × Int)} {at_ : Int} (B : Nat) (w : World) (hv : ViewAt p img l w) : Spec Try.prog 63 #[p, (zi at_)] B w [] (fun v H' => v = .bool (decide (0 ≤ at_ ∧ at_ < (img.length : Int))) ∧ H' = []) := by
 refine spec_Q Try.func63 rfl fun hs => ?_
 have hv0 := hv
 obtain ⟨x, rfl, hok, hb, hi, hm, ho, hcap⟩ := hv
 refine W.sr fun K1 hK1 => ?_
 refine zE 1 (hK1 _ _ ?_)
 refine W.sr fun K2 hK2 => ?_
 refine zR 3 ?_
 rcases Bool.eq_false_or_eq_true (decide (at_ ≥ 0)) with h3 | h3
 ·
  have h3p := of_decide_eq_true h3
  refine zS 7 h3 ?_
  refine zS 6 h3 ?_
  refine zR 2 ?_
  refine zC00 hs (len_spec (hv := (viewAt_old hs hv0)) B _) fun w4 hs6 => ?_
  refine zE 3 (hK2 _ _ ?_)
  refine W.ret ?_
  refine ret_of (.bool (decide (at_ < (img.length : Int)))) (by kernel_rfl) ⟨_, ?_, hs6⟩
  exact ⟨congrArg Value.bool (decide_eq_decide.2 (by omega)), rfl⟩
 have h3p := of_decide_eq_false h3
 refine zS 7 h3 ?_
 refine zS 6 h3 ?_
 refine zE 6 (hK2 _ _ ?_)
 refine W.ret ?_
 refine ret_of (.bool false) (by kernel_rfl) ⟨_, ?_, hs⟩
 exact ⟨congrArg Value.bool (decide_eq_false (by omega)).symm, rfl⟩
theorem get_spec {p : Value} {img : List Int} {l : List (Int × Int)} {at_ : Int} (B : Nat) (w : World) (hv : ViewAt p img l w) : Spec Try.prog 47 #[p, (zi at_)] B w [] (fun v H' => v = .int .u64 (vget img l at_) ∧ H' = []) := by
 refine spec_Q Try.func47 rfl fun hs => ?_
 have hv0 := hv
 obtain ⟨x, rfl, hok, hb, hi, hm, ho, hcap⟩ := hv
 refine W.sr fun K1 hK1 => ?_
 refine zE 1 (hK1 _ _ ?_)
 refine W.seq fun K2 hK2 => ?_
 refine W.sr fun K3 hK3 => ?_
 refine zR 2 ?_
 refine zC00 hs (has_spec (at_ := at_) (hv := (viewAt_old hs hv0)) B _) fun w4 hs6 => ?_
 refine zE 1 (hK3 _ _ ?_)
 refine W.cond (!(decide (0 ≤ at_ ∧ at_ < (img.length : Int)))) (by kernel_rfl) (fun h7 => ?_) (fun h7 => ?_)
 ·
  have h7p : ¬ (0 ≤ at_ ∧ at_ < (img.length : Int)) := of_decide_eq_false (bnot_true h7)
  refine W.sr fun K8 hK8 => ?_
  refine zE 1 (hK8 _ _ ?_)
  refine W.ret (ret_seq ?_)
  refine ret_of (zu 0) (by kernel_rfl) ⟨_, ?_, hs6⟩
  exact ⟨by simp only [vget]; rw [if_neg (by omega)], rfl⟩
 have h7p : 0 ≤ at_ ∧ at_ < (img.length : Int) := of_decide_eq_true (bnot_false h7)
 refine W.skip ?_
 refine hK2 _ _ ?_
 refine W.seq fun K9 hK9 => ?_
 refine W.sr fun K10 hK10 => ?_
 refine zR 3 ?_
 refine zL ⟨x.b, 1, none⟩ (.map (some x.mb)) (cell_of_blk (hs6.old hb) rfl) ?_
 refine zR 1 ?_
 refine ops_R (v := (.tuple #[(zu ((vlook l at_).getD 0)), (.bool ((vlook l at_).isSome))])) (runs_lookup (k := at_) (ok := true) (hs6.oldMap hm) (by kernel_rfl)) ?_
 refine zE 5 (hK10 _ _ ?_)
 refine W.sr fun K11 hK11 => ?_
 refine zE 1 (hK11 _ _ ?_)
 refine W.cond ((vlook l at_).isSome) (by kernel_rfl) (fun h12 => ?_) (fun h12 => ?_)
 ·
  have h12p : ((vlook l at_).isSome) = true := h12
  refine W.sr fun K13 hK13 => ?_
  refine zE 2 (hK13 _ _ ?_)
  refine W.ret (ret_seq ?_)
  refine ret_of (zu ((vlook l at_).getD 0)) (by kernel_rfl) ⟨_, ?_, hs6⟩
  exact ⟨congrArg (Value.int .u64) (by simp only [vget]; rw [if_pos (by omega)]; cases hq : vlook l at_ <;> simp_all), rfl⟩
 have h12p : ((vlook l at_).isSome) = false := h12
 refine W.skip ?_
 refine hK9 _ _ ?_
 refine W.sr fun K14 hK14 => ?_
 refine zR 3 ?_
 refine zL ⟨x.b, 0, none⟩ (.slice x.ia img.length x.ic) (cell_of_blk (hs6.old hb) rfl) ?_
 refine zR 1 ?_
 have hk15 : at_.toNat < img.length := by omega
 refine ops_R (runs_index (a := x.ia) (n := img.length) (z := at_) (size := 1) at_.toNat (by omega) hk15 (kU64.addr (hs6.oldCells hi) hk15) (by kernel_rfl)) ?_
 refine zL ((adr x.ia (at_.toNat * 1)).add 0) (zu (img.getD at_.toNat 0)) (kU64.at (hs6.oldCells hi) hk15 0 0 rfl) ?_
 refine zE 1 (hK14 _ _ ?_)
 refine W.ret ?_
 refine ret_of (zu (img.getD at_.toNat 0)) (by kernel_rfl) ⟨_, ?_, hs6⟩
 exact ⟨congrArg (Value.int .u64) (by simp only [vget]; rw [if_pos (by omega)]; cases hq : vlook l at_ <;> simp_all), rfl⟩
end Go.Proofs.Ytmmclabkkigiaaa

set_option maxRecDepth 20000
namespace Go.Proofs.Ytmmclabkkigiaaa
open Go Go.RowKit
theorem clone_some {ad : Addr} {c : Nat} {xs : List Int} (B : Nat) (w : World) (hc : CellsAt (some ad) (kU64.cells xs) w) (hsz : xs.length ≤ 17592186044415) : Spec Try.prog 29 #[(.slice (some ad) xs.length c)] B w [] (fun v H' => ∃ a' c', v = .slice a' xs.length c' ∧ H' = [kU64.row a' c' xs]) := by
 refine spec_Q Try.func29 rfl fun hs => ?_
 refine W.sr fun K1 hK1 => ?_
 refine zE 1 (hK1 _ _ ?_)
 refine W.seq fun K2 hK2 => ?_
 refine W.sr fun K3 hK3 => ?_
 refine zE 2 (hK3 _ _ ?_)
 refine W.cond_false false (by kernel_rfl) rfl ?_
 refine W.skip ?_
 refine hK2 _ _ ?_
 refine W.sr fun K4 hK4 => ?_
 refine ops_new (fun b => .slice (some ⟨b, 0, none⟩) 0 0) (.cells [].toArray 58 (0, 0)) hs (by kernel_rfl) (fun b7 w5 hs6 => ?_)
 refine zR 1 ?_
 have hs8 : St B w [] w5 [kU64.row (some ⟨b7, 0, none⟩) 0 ([])] := St.kblk kU64 [] hs6 rfl rfl (by simp only [List.length_cons, List.length_nil]; decide)
 refine ops_appendK kU64 (bytes := 8) (a' := (some ad)) (c' := c) (l := []) (m := xs) hs8 (by kernel_rfl) (by simp) (hs8.oldCells hc) (by (unfold maxLen; try simp) <;> omega) (by (try simp) <;> omega) (fun a9 c10 w11 hs12 => ?_)
 have hs13 : St B w [] w11 [kU64.row a9 c10 xs] := hs12
 refine zE 1 (hK4 _ _ ?_)
 refine W.ret ?_
 refine ret_of (.slice a9 xs.length c10) (by kernel_rfl) ⟨_, ?_, hs13⟩
 exact ⟨_, _, rfl, rfl⟩
theorem clone_nil  (B : Nat) (w : World) : Spec Try.prog 29 #[(.slice none 0 0)] B w [] (fun v H' => ∃ a' c', v = .slice a' 0 c' ∧ H' = [kU64.row a' c' []]) := by
 refine spec_Q Try.func29 rfl fun hs => ?_
 refine W.sr fun K1 hK1 => ?_
 refine zE 1 (hK1 _ _ ?_)
 refine W.seq fun K2 hK2 => ?_
 refine W.sr fun K3 hK3 => ?_
 refine zE 2 (hK3 _ _ ?_)
 refine W.cond_true true (by kernel_rfl) rfl ?_
 refine W.sr fun K4 hK4 => ?_
 refine zE 1 (hK4 _ _ ?_)
 refine W.ret (ret_seq ?_)
 have hk := St.knil kU64 hs
 refine ret_of (.slice none 0 0) (by kernel_rfl) ⟨_, ⟨none, 0, rfl, rfl⟩, hk⟩
theorem clone_spec {a : Option Addr} {c : Nat} {xs : List Int} (B : Nat) (w : World) (hc : CellsAt a (kU64.cells xs) w) (hn : a = none → c = 0) (hsz : xs.length ≤ 17592186044415) :
  Spec Try.prog 29 #[.slice a xs.length c] B w [] (fun v H' => ∃ a' c', v = .slice a' xs.length c' ∧ H' = [kU64.row a' c' xs]) := by
 cases a with
 | some ad => exact clone_some B w hc hsz
 | none =>
  have h1 := cells_none kU64 hc
  have h2 := hn rfl
  subst h1 h2
  exact clone_nil B w
theorem new_spec {a : Option Addr} {c : Nat} {xs : List Int} (B : Nat) (w : World) (hc : CellsAt a (kU64.cells xs) w) (hn : a = none → c = 0) (hsz : xs.length ≤ 17592186044415) : Spec Try.prog 17 #[(.slice a xs.length c)] B w [] (fun v H' => ∃ b, v = ptr b ∧ H' = [viewA (ptr b) xs []]) := by
 refine spec_Q Try.func17 rfl fun hs => ?_
 refine W.sr fun K1 hK1 => ?_
 refine zE 1 (hK1 _ _ ?_)
 refine W.sr fun K2 hK2 => ?_
 refine zR 1 ?_
 refine ops_call0 hs (by kernel_rfl) (clone_spec (hc := (hs.oldCells hc)) (hn := hn) (hsz := hsz) B _) ?_
 rintro _ _ w5 ⟨a3, c4, rfl, rfl⟩ hs6
 have hs7 := St.ap1 hs6
 refine ops_makeMap hs7 (by kernel_rfl) (fun b10 w8 hs9 => ?_)
 refine zR 1 ?_
 refine zN [(.slice a3 xs.length c4), (.map (some b10)), (.slice none 0 0)] 68 hs9 fun b13 w11 hs12 => ?_
 refine zE 1 (hK2 _ _ ?_)
 refine W.ret ?_
 have hs14 := St.f1 hs12
 have hs15 := St.f2 hs14
 have hs16 := St.f2 hs15
 have hk := St.knil kInt hs16
 have hk2 := hk.perm (H' := [zb b13 68 [(.slice a3 xs.length c4), (.map (some b10)), (.slice none 0 0)], kU64.row a3 c4 xs, mapA b10 ([]), kInt.row none 0 []]) (perm_last _ _)
 refine ret_of (zp b13) (by kernel_rfl) ⟨_, ⟨b13, rfl, rfl⟩, ?_⟩
 exact view_close (l := []) (ia := a3) (ic := c4) (mb := b10) (oa := none) (oc := 0) (VOk.nil hsz) hk2
end Go.Proofs.Ytmmclabkkigiaaa

namespace Go.Proofs.Ytmmclabkkigiaaa
open Go Go.RowKit
def May (gw gi gb : Int) : Prop := (1 ≤ gw ∧ gw ≤ 4) ∧ (2 ≤ gi ∧ gi ≤ 64) ∧ (2 ≤ gb ∧ gb ≤ 512)
instance (gw gi gb : Int) : Decidable (May gw gi gb) := by unfold May; exact inferInstance
def placeOf (k : Nat) (gw gi gb n : Int) : Int :=
  if May gw gi gb then
    match k with
    | 2 => if 0 ≤ n ∧ n < 4 then 8 + 64 * n else -1
    | 6 => if 0 ≤ n ∧ n < 1 then 264 + 208 * gw + 8 * n else -1
    | 7 => if 0 ≤ n ∧ n < 1 then 272 + 208 * gw + 8 * n else -1
    | 8 => if 0 ≤ n ∧ n < gi then 280 + 208 * gw + 16 * n else -1
    | 9 => if 0 ≤ n ∧ n < gb then 280 + 208 * gw + 16 * gi + 8 * n else -1
    | _ => -1
  else -1
def wordsOf (gw gi gb : Int) : Int := if May gw gi gb then 280 + 208 * gw + 16 * gi + 8 * gb else 0
def fmtW (gw gi gb : Int) : List Int :=
  if May gw gi gb then
    ((((((((List.replicate (wordsOf gw gi gb).toNat 0).set 0 32762617960297063).set 1 gw).set 2 gi).set 3 gb).set (placeOf 6 gw gi gb 0).toNat 3).set (placeOf 7 gw gi gb 0).toNat 1).set (placeOf 8 gw gi gb 1).toNat 2).set (placeOf 8 gw gi gb 1 + 1).toNat 1
  else []
theorem fmtW_len (gw gi gb : Int) : (fmtW gw gi gb).length = (wordsOf gw gi gb).toNat := by
  unfold fmtW
  split
  · simp only [List.length_set, List.length_replicate]
  · rename_i h; simp [wordsOf, h]
theorem words_may {gw gi gb : Int} (h : May gw gi gb) : wordsOf gw gi gb = 280 + 208 * gw + 16 * gi + 8 * gb := by simp only [wordsOf, if_pos h]
theorem place6 {gw gi gb : Int} (h : May gw gi gb) : placeOf 6 gw gi gb 0 = 264 + 208 * gw := by simp [placeOf, h]
theorem place7 {gw gi gb : Int} (h : May gw gi gb) : placeOf 7 gw gi gb 0 = 272 + 208 * gw := by simp [placeOf, h]
theorem place8_in {gw gi gb n : Int} (h : May gw gi gb) (hn : 0 ≤ n ∧ n < gi) : placeOf 8 gw gi gb n = 280 + 208 * gw + 16 * n := by simp [placeOf, h, hn]
theorem place8_cases (gw gi gb n : Int) : placeOf 8 gw gi gb n = -1 ∧ ¬ (May gw gi gb ∧ 0 ≤ n ∧ n < gi) ∨ (May gw gi gb ∧ (0 ≤ n ∧ n < gi) ∧ placeOf 8 gw gi gb n = 280 + 208 * gw + 16 * n) := by
  by_cases h : May gw gi gb
  · by_cases hn : 0 ≤ n ∧ n < gi
    · exact .inr ⟨h, hn, place8_in h hn⟩
    · exact .inl ⟨by simp [placeOf, h, hn], fun q => hn q.2⟩
  · exact .inl ⟨by simp [placeOf, h], fun q => h q.1⟩
def mx (x y : Int) : Int := if y > x then y else x
def mn (x y : Int) : Int := if y < x then y else x
theorem mx_lt {x y z : Int} : mx x y < z ↔ x < z ∧ y < z := by unfold mx; split <;> omega
theorem le_mx {x y z : Int} : z ≤ mx x y ↔ z ≤ x ∨ z ≤ y := by unfold mx; split <;> omega
structure Nd where
  k : Int
  l : Int
  o : Int
  s : Int
  a : Int
  b : Int
  c : Int
  d : Int
  e : Int
  m : Int
def Nd.zero : Nd := ⟨0, 0, 0, 0, 0, 0, 0, 0, 0, 0⟩
def RightP (gw gi gb : Int) (x : Nd) : Prop :=
  May gw gi gb ∧ (x.a < gb ∧ x.b < gb ∧ x.c < gb ∧ x.d < gb ∧ x.e < gb ∧ x.m < gi) ∧ (x.l ≤ 65536 ∧ x.o ≤ 16 ∧ x.s ≤ 768) ∧ ((x.k = 1 ∧ x.m = 0) ∨ (x.k = 2 ∧ x.s = 0))
instance (gw gi gb : Int) (x : Nd) : Decidable (RightP gw gi gb x) := by unfold RightP; exact inferInstance
def ifind (len : Int) (gw gi gb n : Int) : Int × Int :=
  if placeOf 8 gw gi gb n < 0 ∨ n = 0 then (0, 1) else if len < wordsOf gw gi gb then (0, 8) else (placeOf 8 gw gi gb n, 0)
theorem ifind_range (len gw gi gb n : Int) : ((ifind len gw gi gb n).2 = 0 ∨ (ifind len gw gi gb n).2 = 1 ∨ (ifind len gw gi gb n).2 = 8) ∧ (0 ≤ (ifind len gw gi gb n).1 ∧ (ifind len gw gi gb n).1 ≤ 2200) ∧ ((ifind len gw gi gb n).2 = 0 → (ifind len gw gi gb n).1 = placeOf 8 gw gi gb n) := by
  have hp : -1 ≤ placeOf 8 gw gi gb n ∧ placeOf 8 gw gi gb n ≤ 2200 := by
    rcases place8_cases gw gi gb n with ⟨h, _⟩ | ⟨h, hn, e⟩
    · omega
    · have h_ : (1 ≤ gw ∧ gw ≤ 4) ∧ (2 ≤ gi ∧ gi ≤ 64) ∧ (2 ≤ gb ∧ gb ≤ 512) := h
      omega
  unfold ifind
  split
  · simp
  · split
    · simp
    · simp; omega
def ndAt (img : List Int) (l : List (Int × Int)) (at_ : Int) : Nd :=
  ⟨vget img l (at_ + 0), vget img l (at_ + 1), vget img l (at_ + 2), vget img l (at_ + 3), vget img l (at_ + 4), vget img l (at_ + 5), vget img l (at_ + 6), vget img l (at_ + 7), vget img l (at_ + 8), vget img l (at_ + 9)⟩
def igetM (img : List Int) (l : List (Int × Int)) (gw gi gb n : Int) : Nd × Int :=
  if (ifind img.length gw gi gb n).2 = 0 then
    if RightP gw gi gb (ndAt img l (ifind img.length gw gi gb n).1) then (ndAt img l (ifind img.length gw gi gb n).1, 0) else (.zero, 4)
  else (.zero, (ifind img.length gw gi gb n).2)
end Go.Proofs.Ytmmclabkkigiaaa

set_option maxRecDepth 20000
namespace Go.Proofs.Ytmmclabkkigiaaa
open Go Go.RowKit
theorem within_spec {n_ f_ t_ : Int} (B : Nat) (w : World) : Spec Try.prog 58 #[(zi n_), (zi f_), (zi t_)] B w [] (fun v H' => v = .bool (decide (f_ ≤ n_ ∧ n_ ≤ t_)) ∧ H' = []) := by
 refine spec_Q Try.func58 rfl fun hs => ?_
 refine W.sr fun K1 hK1 => ?_
 refine zE 1 (hK1 _ _ ?_)
 refine W.sr fun K2 hK2 => ?_
 refine zR 4 ?_
 rcases Bool.eq_false_or_eq_true (decide (n_ ≥ f_)) with h3 | h3
 ·
  have h3p := of_decide_eq_true h3
  refine zS 10 h3 ?_
  refine zS 9 h3 ?_
  refine zE 5 (hK2 _ _ ?_)
  refine W.ret ?_
  refine ret_of (.bool (decide (n_ ≤ t_))) (by kernel_rfl) ⟨_, ⟨congrArg Value.bool (decide_eq_decide.2 (by omega)), rfl⟩, hs⟩
 have h3p := of_decide_eq_false h3
 refine zS 10 h3 ?_
 refine zS 9 h3 ?_
 refine zE 5 (hK2 _ _ ?_)
 refine W.ret ?_
 refine ret_of (.bool false) (by kernel_rfl) ⟨_, ⟨congrArg Value.bool (decide_eq_false (by omega)).symm, rfl⟩, hs⟩
theorem may_spec {gw gi gb : Int} (B : Nat) (w : World) : Spec Try.prog 42 #[(.agg #[(zi gw), (zi gi), (zi gb)])] B w [] (fun v H' => v = .bool (decide (May gw gi gb)) ∧ H' = []) := by
 refine spec_Q Try.func42 rfl fun hs => ?_
 refine W.sr fun K1 hK1 => ?_
 refine zN [(zi gw), (zi gi), (zi gb)] 33 hs fun b4 w2 hs3 => ?_
 refine zE 1 (hK1 _ _ ?_)
 refine W.sr fun K5 hK5 => ?_
 refine zR 1 ?_
 refine zL ⟨b4, 0, none⟩ (zi gw) (hs3.cellAt 0 rfl rfl) ?_
 refine zC00 hs3 (within_spec (n_ := gw) (f_ := 1) (t_ := 4) B _) fun w6 hs8 => ?_
 refine zR 1 ?_
 rcases Bool.eq_false_or_eq_true (decide (1 ≤ gw ∧ gw ≤ 4)) with h9 | h9
 ·
  have h9p := of_decide_eq_true h9
  refine zS 6 h9 ?_
  refine zS 5 h9 ?_
  refine zR 1 ?_
  refine zL ⟨b4, 1, none⟩ (zi gi) (hs8.cellAt 0 rfl rfl) ?_
  refine zC00 hs8 (within_spec (n_ := gi) (f_ := 2) (t_ := 64) B _) fun w10 hs12 => ?_
  refine zR 2 ?_
  rcases Bool.eq_false_or_eq_true (decide (2 ≤ gi ∧ gi ≤ 64)) with h13 | h13
  ·
   have h13p := of_decide_eq_true h13
   refine zS 11 h13 ?_
   refine zS 9 h13 ?_
   refine zS 10 h13 ?_
   refine zR 1 ?_
   refine zL ⟨b4, 2, none⟩ (zi gb) (hs12.cellAt 0 rfl rfl) ?_
   refine zC00 hs12 (within_spec (n_ := gb) (f_ := 2) (t_ := 512) B _) fun w14 hs16 => ?_
   refine zE 2 (hK5 _ _ ?_)
   refine W.ret ?_
   have hs17 := St.tk0 hs16
   refine ret_of (.bool (decide (2 ≤ gb ∧ gb ≤ 512))) (by kernel_rfl) ⟨_, ⟨congrArg Value.bool (decide_eq_decide.2 (by unfold May; omega)), rfl⟩, hs17⟩
  have h13p := of_decide_eq_false h13
  refine zS 11 h13 ?_
  refine zS 9 h13 ?_
  refine zS 10 h13 ?_
  refine zE 5 (hK5 _ _ ?_)
  refine W.ret ?_
  have hs18 := St.tk0 hs12
  refine ret_of (.bool false) (by kernel_rfl) ⟨_, ⟨congrArg Value.bool (decide_eq_false (by unfold May; omega)).symm, rfl⟩, hs18⟩
 have h9p := of_decide_eq_false h9
 refine zS 6 h9 ?_
 refine zS 5 h9 ?_
 refine zE 10 (hK5 _ _ ?_)
 refine W.ret ?_
 have hs19 := St.tk0 hs8
 refine ret_of (.bool false) (by kernel_rfl) ⟨_, ⟨congrArg Value.bool (decide_eq_false (by unfold May; omega)).symm, rfl⟩, hs19⟩
theorem rmay_spec {gw gi gb : Int} (B : Nat) (w : World) : Spec Try.prog 30 #[(.agg #[(zi gw), (zi gi), (zi gb)])] B w [] (fun v H' => v = .bool (decide (May gw gi gb)) ∧ H' = []) := by
 refine spec_Q Try.func30 rfl fun hs => ?_
 refine W.sr fun K1 hK1 => ?_
 refine zN [(zi gw), (zi gi), (zi gb)] 46 hs fun b4 w2 hs3 => ?_
 refine zE 1 (hK1 _ _ ?_)
 refine W.sr fun K5 hK5 => ?_
 refine zR 1 ?_
 refine zL ⟨b4, 0, none⟩ (zi gw) (hs3.cellAt 0 rfl rfl) ?_
 refine zR 2 ?_
 rcases Bool.eq_false_or_eq_true (decide (gw ≥ 1)) with h6 | h6
 ·
  have h6p := of_decide_eq_true h6
  refine zS 6 h6 ?_
  refine zS 5 h6 ?_
  refine zR 1 ?_
  refine zL ⟨b4, 0, none⟩ (zi gw) (hs3.cellAt 0 rfl rfl) ?_
  refine zR 3 ?_
  rcases Bool.eq_false_or_eq_true (decide (gw ≤ 4)) with h7 | h7
  ·
   have h7p := of_decide_eq_true h7
   refine zS 11 h7 ?_
   refine zS 9 h7 ?_
   refine zS 10 h7 ?_
   refine zR 1 ?_
   refine zL ⟨b4, 1, none⟩ (zi gi) (hs3.cellAt 0 rfl rfl) ?_
   refine zR 3 ?_
   rcases Bool.eq_false_or_eq_true (decide (gi ≥ 2)) with h8 | h8
   ·
    have h8p := of_decide_eq_true h8
    refine zS 16 h8 ?_
    refine zS 14 h8 ?_
    refine zS 15 h8 ?_
    refine zR 1 ?_
    refine zL ⟨b4, 1, none⟩ (zi gi) (hs3.cellAt 0 rfl rfl) ?_
    refine zR 3 ?_
    rcases Bool.eq_false_or_eq_true (decide (gi ≤ 64)) with h9 | h9
    ·
     have h9p := of_decide_eq_true h9
     refine zS 21 h9 ?_
     refine zS 19 h9 ?_
     refine zS 20 h9 ?_
     refine zR 1 ?_
     refine zL ⟨b4, 2, none⟩ (zi gb) (hs3.cellAt 0 rfl rfl) ?_
     refine zR 3 ?_
     rcases Bool.eq_false_or_eq_true (decide (gb ≥ 2)) with h10 | h10
     ·
      have h10p := of_decide_eq_true h10
      refine zS 26 h10 ?_
      refine zS 24 h10 ?_
      refine zS 25 h10 ?_
      refine zR 1 ?_
      refine zL ⟨b4, 2, none⟩ (zi gb) (hs3.cellAt 0 rfl rfl) ?_
      refine zE 3 (hK5 _ _ ?_)
      refine W.ret ?_
      have hs11 := St.tk0 hs3
      refine ret_of (.bool (decide (gb ≤ 512))) (by kernel_rfl) ⟨_, ⟨congrArg Value.bool (decide_eq_decide.2 (by unfold May; omega)), rfl⟩, hs11⟩
     have h10p := of_decide_eq_false h10
     refine zS 26 h10 ?_
     refine zS 24 h10 ?_
     refine zS 25 h10 ?_
     refine zE 5 (hK5 _ _ ?_)
     refine W.ret ?_
     have hs12 := St.tk0 hs3
     refine ret_of (.bool false) (by kernel_rfl) ⟨_, ⟨congrArg Value.bool (decide_eq_false (by unfold May; omega)).symm, rfl⟩, hs12⟩
    have h9p := of_decide_eq_false h9
    refine zS 21 h9 ?_
    refine zS 19 h9 ?_
    refine zS 20 h9 ?_
    refine zE 10 (hK5 _ _ ?_)
    refine W.ret ?_
    have hs13 := St.tk0 hs3
    refine ret_of (.bool false) (by kernel_rfl) ⟨_, ⟨congrArg Value.bool (decide_eq_false (by unfold May; omega)).symm, rfl⟩, hs13⟩
   have h8p := of_decide_eq_false h8
   refine zS 16 h8 ?_
   refine zS 14 h8 ?_
   refine zS 15 h8 ?_
   refine zE 15 (hK5 _ _ ?_)
   refine W.ret ?_
   have hs14 := St.tk0 hs3
   refine ret_of (.bool false) (by kernel_rfl) ⟨_, ⟨congrArg Value.bool (decide_eq_false (by unfold May; omega)).symm, rfl⟩, hs14⟩
  have h7p := of_decide_eq_false h7
  refine zS 11 h7 ?_
  refine zS 9 h7 ?_
  refine zS 10 h7 ?_
  refine zE 20 (hK5 _ _ ?_)
  refine W.ret ?_
  have hs15 := St.tk0 hs3
  refine ret_of (.bool false) (by kernel_rfl) ⟨_, ⟨congrArg Value.bool (decide_eq_false (by unfold May; omega)).symm, rfl⟩, hs15⟩
 have h6p := of_decide_eq_false h6
 refine zS 6 h6 ?_
 refine zS 5 h6 ?_
 refine zE 25 (hK5 _ _ ?_)
 refine W.ret ?_
 have hs16 := St.tk0 hs3
 refine ret_of (.bool false) (by kernel_rfl) ⟨_, ⟨congrArg Value.bool (decide_eq_false (by unfold May; omega)).symm, rfl⟩, hs16⟩
end Go.Proofs.Ytmmclabkkigiaaa

set_option maxRecDepth 20000
namespace Go.Proofs.Ytmmclabkkigiaaa
open Go Go.RowKit
theorem rows_spec {gw gi gb : Int} (B : Nat) (w : World) : Spec Try.prog 59 #[(.agg #[(zi gw), (zi gi), (zi gb)])] B w [] (fun v H' => v = (.agg #[(.int .u8 1), (zi 8), (zi 1), (.int .u8 2), (zi 64), (zi 4), (.int .u8 5), (zi 208), (zi gw), (.int .u8 6), (zi 8), (zi 1), (.int .u8 7), (zi 8), (zi 1), (.int .u8 8), (zi 16), (zi gi), (.int .u8 9), (zi 8), (zi gb)]) ∧ H' = []) := by
 refine spec_Q Try.func59 rfl fun hs => ?_
 refine W.sr fun K1 hK1 => ?_
 refine zN [(zi gw), (zi gi), (zi gb)] 33 hs fun b4 w2 hs3 => ?_
 refine zN [(.int .u8 0), (zi 0), (zi 0), (.int .u8 0), (zi 0), (zi 0), (.int .u8 0), (zi 0), (zi 0), (.int .u8 0), (zi 0), (zi 0), (.int .u8 0), (zi 0), (zi 0), (.int .u8 0), (zi 0), (zi 0), (.int .u8 0), (zi 0), (zi 0)] 109 hs3 fun b7 w5 hs6 => ?_
 refine zD (hK1 _ _ ?_)
 refine W.sr fun K8 hK8 => ?_
 refine zR 3 ?_
 refine zL ⟨b4, 0, none⟩ (zi gw) (hs6.cellAt 1 rfl rfl) ?_
 refine zR 4 ?_
 refine zL ⟨b4, 1, none⟩ (zi gi) (hs6.cellAt 1 rfl rfl) ?_
 refine zR 2 ?_
 refine zL ⟨b4, 2, none⟩ (zi gb) (hs6.cellAt 1 rfl rfl) ?_
 refine zR 2 ?_
 refine zT 0 [(.int .u8 1), (zi 8), (zi 1), (.int .u8 2), (zi 64), (zi 4), (.int .u8 5), (zi 208), (zi gw), (.int .u8 6), (zi 8), (zi 1), (.int .u8 7), (zi 8), (zi 1), (.int .u8 8), (zi 16), (zi gi), (.int .u8 9), (zi 8), (zi gb)] [(.int .u8 1), (zi 8), (zi 1), (.int .u8 2), (zi 64), (zi 4), (.int .u8 5), (zi 208), (zi gw), (.int .u8 6), (zi 8), (zi 1), (.int .u8 7), (zi 8), (zi 1), (.int .u8 8), (zi 16), (zi gi), (.int .u8 9), (zi 8), (zi gb)] hs6 fun w9 hs11 => ?_
 refine zD (hK8 _ _ ?_)
 refine W.ret ?_
 have hs12 := St.tk0 hs11
 refine ret_of (.agg #[(.int .u8 1), (zi 8), (zi 1), (.int .u8 2), (zi 64), (zi 4), (.int .u8 5), (zi 208), (zi gw), (.int .u8 6), (zi 8), (zi 1), (.int .u8 7), (zi 8), (zi 1), (.int .u8 8), (zi 16), (zi gi), (.int .u8 9), (zi 8), (zi gb)]) (results_cell (ad := ⟨b7, 0, none⟩) (cs := [(.int .u8 1), (zi 8), (zi 1), (.int .u8 2), (zi 64), (zi 4), (.int .u8 5), (zi 208), (zi gw), (.int .u8 6), (zi 8), (zi 1), (.int .u8 7), (zi 8), (zi 1), (.int .u8 8), (zi 16), (zi gi), (.int .u8 9), (zi 8), (zi gb)]) rfl (by kernel_rfl) (by kernel_rfl) (cells_sub (hs11.heapAt 0 rfl) rfl)) ⟨_, ⟨rfl, rfl⟩, hs12⟩
theorem lwords_spec {gw gi gb : Int} (B : Nat) (w : World) : Spec Try.prog 44 #[(.agg #[(zi gw), (zi gi), (zi gb)])] B w [] (fun v H' => v = .int .i64 (wordsOf gw gi gb) ∧ H' = []) := by
 refine spec_Q Try.func44 rfl fun hs => ?_
 refine W.sr fun K1 hK1 => ?_
 refine zN [(zi gw), (zi gi), (zi gb)] 33 hs fun b4 w2 hs3 => ?_
 refine zE 1 (hK1 _ _ ?_)
 refine W.seq fun K5 hK5 => ?_
 refine W.sr fun K6 hK6 => ?_
 refine zG ⟨b4, 0, none⟩ [(zi gw), (zi gi), (zi gb)] (cells_sub (hs3.heapAt 0 rfl) rfl) ?_
 refine zC00 hs3 (may_spec (gw := gw) (gi := gi) (gb := gb) B _) fun w7 hs9 => ?_
 refine zE 1 (hK6 _ _ ?_)
 refine W.cond (!(decide (May gw gi gb))) (by kernel_rfl) (fun h10 => ?_) (fun h10 => ?_)
 ·
  have h10p : ¬ (May gw gi gb) := of_decide_eq_false (bnot_true h10)
  have hm : ¬ May gw gi gb := h10p
  refine W.sr fun K11 hK11 => ?_
  refine zE 1 (hK11 _ _ ?_)
  refine W.ret (ret_seq ?_)
  have hs12 := St.tk0 hs9
  refine ret_of (zi 0) (by kernel_rfl) ⟨_, ⟨congrArg (Value.int .i64) (by first | contradiction | (simp only [wordsOf, if_pos hm]; omega) | (simp only [wordsOf, if_neg hm]; done)), rfl⟩, hs12⟩
 have h10p : May gw gi gb := of_decide_eq_true (bnot_false h10)
 have hm : May gw gi gb := h10p
 have hm_ : (1 ≤ gw ∧ gw ≤ 4) ∧ (2 ≤ gi ∧ gi ≤ 64) ∧ (2 ≤ gb ∧ gb ≤ 512) := hm
 refine W.skip ?_
 refine hK5 _ _ ?_
 refine W.seq fun K13 hK13 => ?_
 refine W.sr fun K14 hK14 => ?_
 refine zG ⟨b4, 0, none⟩ [(zi gw), (zi gi), (zi gb)] (cells_sub (hs9.heapAt 0 rfl) rfl) ?_
 refine zC00 hs9 (rows_spec (gw := gw) (gi := gi) (gb := gb) B _) fun w15 hs17 => ?_
 refine zE 1 (hK14 _ _ ?_)
 refine W.block ?_
 refine W.loop_start ?_
 refine loopAt_round ?_
 refine W.sr fun K18 hK18 => ?_
 refine zE 1 (hK18 _ _ ?_)
 refine W.seq fun K19 hK19 => ?_
 refine W.cond_true true (by kernel_rfl) rfl ?_
 refine W.skip ?_
 refine hK19 _ _ ?_
 refine W.seq fun K20 hK20 => ?_
 refine W.block ?_
 refine W.sr fun K21 hK21 => ?_
 refine zR 1 ?_
 refine zN [(.int .u8 0), (zi 0), (zi 0)] 108 hs17 fun b24 w22 hs23 => ?_
 refine zT 0 [(.int .u8 1), (zi 8), (zi 1)] [(.int .u8 1), (zi 8), (zi 1)] hs23 fun w25 hs27 => ?_
 refine zD (hK21 _ _ ?_)
 refine W.region ?_
 refine zR 2 ?_
 refine zL ⟨b24, 1, none⟩ (zi 8) (hs27.cellAt 0 rfl rfl) ?_
 refine zR 1 ?_
 refine zL ⟨b24, 2, none⟩ (zi 1) (hs27.cellAt 0 rfl rfl) ?_
 refine zE 3 ?_
 refine normal_block ?_
 refine hK20 _ _ ?_
 refine W.region ?_
 refine zE 2 ?_
 refine loopAt_next ?_
 refine loopAt_round ?_
 refine W.sr fun K28 hK28 => ?_
 refine zE 1 (hK28 _ _ ?_)
 refine W.seq fun K29 hK29 => ?_
 refine W.cond_true true (by kernel_rfl) rfl ?_
 refine W.skip ?_
 refine hK29 _ _ ?_
 refine W.seq fun K30 hK30 => ?_
 refine W.block ?_
 refine W.sr fun K31 hK31 => ?_
 refine zR 1 ?_
 refine zN [(.int .u8 0), (zi 0), (zi 0)] 108 hs27 fun b34 w32 hs33 => ?_
 refine zT 0 [(.int .u8 2), (zi 64), (zi 4)] [(.int .u8 2), (zi 64), (zi 4)] hs33 fun w35 hs37 => ?_
 refine zD (hK31 _ _ ?_)
 refine W.region ?_
 refine zR 2 ?_
 refine zL ⟨b34, 1, none⟩ (zi 64) (hs37.cellAt 0 rfl rfl) ?_
 refine zR 1 ?_
 refine zL ⟨b34, 2, none⟩ (zi 4) (hs37.cellAt 0 rfl rfl) ?_
 refine zE 3 ?_
 refine normal_block ?_
 refine hK30 _ _ ?_
 refine W.region ?_
 refine zE 2 ?_
 refine loopAt_next ?_
 refine loopAt_round ?_
 refine W.sr fun K38 hK38 => ?_
 refine zE 1 (hK38 _ _ ?_)
 refine W.seq fun K39 hK39 => ?_
 refine W.cond_true true (by kernel_rfl) rfl ?_
 refine W.skip ?_
 refine hK39 _ _ ?_
 refine W.seq fun K40 hK40 => ?_
 refine W.block ?_
 refine W.sr fun K41 hK41 => ?_
 refine zR 1 ?_
 refine zN [(.int .u8 0), (zi 0), (zi 0)] 108 hs37 fun b44 w42 hs43 => ?_
 refine zT 0 [(.int .u8 5), (zi 208), (zi gw)] [(.int .u8 5), (zi 208), (zi gw)] hs43 fun w45 hs47 => ?_
 refine zD (hK41 _ _ ?_)
 refine W.region ?_
 refine zR 2 ?_
 refine zL ⟨b44, 1, none⟩ (zi 208) (hs47.cellAt 0 rfl rfl) ?_
 refine zR 1 ?_
 refine zL ⟨b44, 2, none⟩ (zi gw) (hs47.cellAt 0 rfl rfl) ?_
 refine zI (208 * gw) (wrap_i64 (by omega) (by omega)) ?_
 refine zI (264 + (208 * gw)) (wrap_i64 (by omega) (by omega)) ?_
 refine zE 1 ?_
 refine normal_block ?_
 refine hK40 _ _ ?_
 refine W.region ?_
 refine zE 2 ?_
 refine loopAt_next ?_
 refine loopAt_round ?_
 refine W.sr fun K48 hK48 => ?_
 refine zE 1 (hK48 _ _ ?_)
 refine W.seq fun K49 hK49 => ?_
 refine W.cond_true true (by kernel_rfl) rfl ?_
 refine W.skip ?_
 refine hK49 _ _ ?_
 refine W.seq fun K50 hK50 => ?_
 refine W.block ?_
 refine W.sr fun K51 hK51 => ?_
 refine zR 1 ?_
 refine zN [(.int .u8 0), (zi 0), (zi 0)] 108 hs47 fun b54 w52 hs53 => ?_
 refine zT 0 [(.int .u8 6), (zi 8), (zi 1)] [(.int .u8 6), (zi 8), (zi 1)] hs53 fun w55 hs57 => ?_
 refine zD (hK51 _ _ ?_)
 refine W.region ?_
 refine zR 2 ?_
 refine zL ⟨b54, 1, none⟩ (zi 8) (hs57.cellAt 0 rfl rfl) ?_
 refine zR 1 ?_
 refine zL ⟨b54, 2, none⟩ (zi 1) (hs57.cellAt 0 rfl rfl) ?_
 refine zR 1 ?_
 refine zI ((264 + (208 * gw)) + 8) (wrap_i64 (by omega) (by omega)) ?_
 refine zE 1 ?_
 refine normal_block ?_
 refine hK50 _ _ ?_
 refine W.region ?_
 refine zE 2 ?_
 refine loopAt_next ?_
 refine loopAt_round ?_
 refine W.sr fun K58 hK58 => ?_
 refine zE 1 (hK58 _ _ ?_)
 refine W.seq fun K59 hK59 => ?_
 refine W.cond_true true (by kernel_rfl) rfl ?_
 refine W.skip ?_
 refine hK59 _ _ ?_
 refine W.seq fun K60 hK60 => ?_
 refine W.block ?_
 refine W.sr fun K61 hK61 => ?_
 refine zR 1 ?_
 refine zN [(.int .u8 0), (zi 0), (zi 0)] 108 hs57 fun b64 w62 hs63 => ?_
 refine zT 0 [(.int .u8 7), (zi 8), (zi 1)] [(.int .u8 7), (zi 8), (zi 1)] hs63 fun w65 hs67 => ?_
 refine zD (hK61 _ _ ?_)
 refine W.region ?_
 refine zR 2 ?_
 refine zL ⟨b64, 1, none⟩ (zi 8) (hs67.cellAt 0 rfl rfl) ?_
 refine zR 1 ?_
 refine zL ⟨b64, 2, none⟩ (zi 1) (hs67.cellAt 0 rfl rfl) ?_
 refine zR 1 ?_
 refine zI (((264 + (208 * gw)) + 8) + 8) (wrap_i64 (by omega) (by omega)) ?_
 refine zE 1 ?_
 refine normal_block ?_
 refine hK60 _ _ ?_
 refine W.region ?_
 refine zE 2 ?_
 refine loopAt_next ?_
 refine loopAt_round ?_
 refine W.sr fun K68 hK68 => ?_
 refine zE 1 (hK68 _ _ ?_)
 refine W.seq fun K69 hK69 => ?_
 refine W.cond_true true (by kernel_rfl) rfl ?_
 refine W.skip ?_
 refine hK69 _ _ ?_
 refine W.seq fun K70 hK70 => ?_
 refine W.block ?_
 refine W.sr fun K71 hK71 => ?_
 refine zR 1 ?_
 refine zN [(.int .u8 0), (zi 0), (zi 0)] 108 hs67 fun b74 w72 hs73 => ?_
 refine zT 0 [(.int .u8 8), (zi 16), (zi gi)] [(.int .u8 8), (zi 16), (zi gi)] hs73 fun w75 hs77 => ?_
 refine zD (hK71 _ _ ?_)
 refine W.region ?_
 refine zR 2 ?_
 refine zL ⟨b74, 1, none⟩ (zi 16) (hs77.cellAt 0 rfl rfl) ?_
 refine zR 1 ?_
 refine zL ⟨b74, 2, none⟩ (zi gi) (hs77.cellAt 0 rfl rfl) ?_
 refine zI (16 * gi) (wrap_i64 (by omega) (by omega)) ?_
 refine zI ((((264 + (208 * gw)) + 8) + 8) + (16 * gi)) (wrap_i64 (by omega) (by omega)) ?_
 refine zE 1 ?_
 refine normal_block ?_
 refine hK70 _ _ ?_
 refine W.region ?_
 refine zE 2 ?_
 refine loopAt_next ?_
 refine loopAt_round ?_
 refine W.sr fun K78 hK78 => ?_
 refine zE 1 (hK78 _ _ ?_)
 refine W.seq fun K79 hK79 => ?_
 refine W.cond_true true (by kernel_rfl) rfl ?_
 refine W.skip ?_
 refine hK79 _ _ ?_
 refine W.seq fun K80 hK80 => ?_
 refine W.block ?_
 refine W.sr fun K81 hK81 => ?_
 refine zR 1 ?_
 refine zN [(.int .u8 0), (zi 0), (zi 0)] 108 hs77 fun b84 w82 hs83 => ?_
 refine zT 0 [(.int .u8 9), (zi 8), (zi gb)] [(.int .u8 9), (zi 8), (zi gb)] hs83 fun w85 hs87 => ?_
 refine zD (hK81 _ _ ?_)
 refine W.region ?_
 refine zR 2 ?_
 refine zL ⟨b84, 1, none⟩ (zi 8) (hs87.cellAt 0 rfl rfl) ?_
 refine zR 1 ?_
 refine zL ⟨b84, 2, none⟩ (zi gb) (hs87.cellAt 0 rfl rfl) ?_
 refine zI (8 * gb) (wrap_i64 (by omega) (by omega)) ?_
 refine zI (((((264 + (208 * gw)) + 8) + 8) + (16 * gi)) + (8 * gb)) (wrap_i64 (by omega) (by omega)) ?_
 refine zE 1 ?_
 refine normal_block ?_
 refine hK80 _ _ ?_
 refine W.region ?_
 refine zE 2 ?_
 refine loopAt_next ?_
 refine loopAt_round ?_
 refine W.sr fun K88 hK88 => ?_
 refine zE 1 (hK88 _ _ ?_)
 refine W.seq fun K89 hK89 => ?_
 refine W.cond_false false (by kernel_rfl) rfl ?_
 refine W.exit (exit_seq (exit_seq (exit_here ?_)))
 refine hK13 _ _ ?_
 refine W.sr fun K90 hK90 => ?_
 refine zE 2 (hK90 _ _ ?_)
 refine W.ret ?_
 have hs91 := St.tk0 hs87
 refine ret_of (zi (((((264 + (208 * gw)) + 8) + 8) + (16 * gi)) + (8 * gb))) (by kernel_rfl) ⟨_, ⟨congrArg (Value.int .i64) (by first | contradiction | (simp only [wordsOf, if_pos hm]; omega) | (simp only [wordsOf, if_neg hm]; done)), rfl⟩, hs91⟩
theorem place8_spec {gw gi gb n_ : Int} (B : Nat) (w : World) : Spec Try.prog 77 #[(.agg #[(zi gw), (zi gi), (zi gb)]), (.int .u8 8), (zi n_)] B w [] (fun v H' => v = .int .i64 (placeOf 8 gw gi gb n_) ∧ H' = []) := by
 refine spec_Q Try.func77 rfl fun hs => ?_
 refine W.sr fun K1 hK1 => ?_
 refine zN [(zi gw), (zi gi), (zi gb)] 33 hs fun b4 w2 hs3 => ?_
 refine zE 1 (hK1 _ _ ?_)
 refine W.sr fun K5 hK5 => ?_
 refine zE 1 (hK5 _ _ ?_)
 refine W.seq fun K6 hK6 => ?_
 refine W.sr fun K7 hK7 => ?_
 refine zG ⟨b4, 0, none⟩ [(zi gw), (zi gi), (zi gb)] (cells_sub (hs3.heapAt 0 rfl) rfl) ?_
 refine zC00 hs3 (rows_spec (gw := gw) (gi := gi) (gb := gb) B _) fun w8 hs10 => ?_
 refine zE 1 (hK7 _ _ ?_)
 refine W.block ?_
 refine W.loop_start ?_
 refine loopAt_round ?_
 refine W.sr fun K11 hK11 => ?_
 refine zE 1 (hK11 _ _ ?_)
 refine W.seq fun K12 hK12 => ?_
 refine W.cond_true true (by kernel_rfl) rfl ?_
 refine W.skip ?_
 refine hK12 _ _ ?_
 refine W.seq fun K13 hK13 => ?_
 refine W.block ?_
 refine W.sr fun K14 hK14 => ?_
 refine zR 1 ?_
 refine zN [(.int .u8 0), (zi 0), (zi 0)] 108 hs10 fun b17 w15 hs16 => ?_
 refine zT 0 [(.int .u8 1), (zi 8), (zi 1)] [(.int .u8 1), (zi 8), (zi 1)] hs16 fun w18 hs20 => ?_
 refine zD (hK14 _ _ ?_)
 refine W.seq fun K21 hK21 => ?_
 refine W.sr fun K22 hK22 => ?_
 refine zR 1 ?_
 refine zL ⟨b17, 0, none⟩ (.int .u8 1) (hs20.cellAt 0 rfl rfl) ?_
 refine zE 2 (hK22 _ _ ?_)
 refine W.cond_true true (by kernel_rfl) rfl ?_
 refine W.sr fun K23 hK23 => ?_
 refine zR 2 ?_
 refine zL ⟨b17, 1, none⟩ (zi 8) (hs20.cellAt 0 rfl rfl) ?_
 refine zR 1 ?_
 refine zL ⟨b17, 2, none⟩ (zi 1) (hs20.cellAt 0 rfl rfl) ?_
 refine zE 3 (hK23 _ _ ?_)
 refine W.exit (exit_seq (exit_here ?_))
 refine hK13 _ _ ?_
 refine W.region ?_
 refine zE 2 ?_
 refine loopAt_next ?_
 refine loopAt_round ?_
 refine W.sr fun K24 hK24 => ?_
 refine zE 1 (hK24 _ _ ?_)
 refine W.seq fun K25 hK25 => ?_
 refine W.cond_true true (by kernel_rfl) rfl ?_
 refine W.skip ?_
 refine hK25 _ _ ?_
 refine W.seq fun K26 hK26 => ?_
 refine W.block ?_
 refine W.sr fun K27 hK27 => ?_
 refine zR 1 ?_
 refine zN [(.int .u8 0), (zi 0), (zi 0)] 108 hs20 fun b30 w28 hs29 => ?_
 refine zT 0 [(.int .u8 2), (zi 64), (zi 4)] [(.int .u8 2), (zi 64), (zi 4)] hs29 fun w31 hs33 => ?_
 refine zD (hK27 _ _ ?_)
 refine W.seq fun K34 hK34 => ?_
 refine W.sr fun K35 hK35 => ?_
 refine zR 1 ?_
 refine zL ⟨b30, 0, none⟩ (.int .u8 2) (hs33.cellAt 0 rfl rfl) ?_
 refine zE 2 (hK35 _ _ ?_)
 refine W.cond_true true (by kernel_rfl) rfl ?_
 refine W.sr fun K36 hK36 => ?_
 refine zR 2 ?_
 refine zL ⟨b30, 1, none⟩ (zi 64) (hs33.cellAt 0 rfl rfl) ?_
 refine zR 1 ?_
 refine zL ⟨b30, 2, none⟩ (zi 4) (hs33.cellAt 0 rfl rfl) ?_
 refine zE 3 (hK36 _ _ ?_)
 refine W.exit (exit_seq (exit_here ?_))
 refine hK26 _ _ ?_
 refine W.region ?_
 refine zE 2 ?_
 refine loopAt_next ?_
 refine loopAt_round ?_
 refine W.sr fun K37 hK37 => ?_
 refine zE 1 (hK37 _ _ ?_)
 refine W.seq fun K38 hK38 => ?_
 refine W.cond_true true (by kernel_rfl) rfl ?_
 refine W.skip ?_
 refine hK38 _ _ ?_
 refine W.seq fun K39 hK39 => ?_
 refine W.block ?_
 refine W.sr fun K40 hK40 => ?_
 refine zR 1 ?_
 refine zN [(.int .u8 0), (zi 0), (zi 0)] 108 hs33 fun b43 w41 hs42 => ?_
 refine zT 0 [(.int .u8 5), (zi 208), (zi gw)] [(.int .u8 5), (zi 208), (zi gw)] hs42 fun w44 hs46 => ?_
 refine zD (hK40 _ _ ?_)
 refine W.seq fun K47 hK47 => ?_
 refine W.sr fun K48 hK48 => ?_
 refine zR 1 ?_
 refine zL ⟨b43, 0, none⟩ (.int .u8 5) (hs46.cellAt 0 rfl rfl) ?_
 refine zE 2 (hK48 _ _ ?_)
 refine W.cond_true true (by kernel_rfl) rfl ?_
 refine W.sr fun K49 hK49 => ?_
 refine zR 2 ?_
 refine zL ⟨b43, 1, none⟩ (zi 208) (hs46.cellAt 0 rfl rfl) ?_
 refine zR 1 ?_
 refine zL ⟨b43, 2, none⟩ (zi gw) (hs46.cellAt 0 rfl rfl) ?_
 refine ops_val (v := .int .i64 (IntKind.i64.wrap (208 * gw))) (v' := .int .i64 (IntKind.i64.wrap (208 * gw))) (by kernel_rfl) rfl ?_
 refine ops_val (v := .int .i64 (IntKind.i64.wrap (264 + (IntKind.i64.wrap (208 * gw))))) (v' := .int .i64 (IntKind.i64.wrap (264 + (IntKind.i64.wrap (208 * gw))))) (by kernel_rfl) rfl ?_
 refine zE 1 (hK49 _ _ ?_)
 refine W.exit (exit_seq (exit_here ?_))
 refine hK39 _ _ ?_
 refine W.region ?_
 refine zE 2 ?_
 refine loopAt_next ?_
 refine loopAt_round ?_
 refine W.sr fun K50 hK50 => ?_
 refine zE 1 (hK50 _ _ ?_)
 refine W.seq fun K51 hK51 => ?_
 refine W.cond_true true (by kernel_rfl) rfl ?_
 refine W.skip ?_
 refine hK51 _ _ ?_
 refine W.seq fun K52 hK52 => ?_
 refine W.block ?_
 refine W.sr fun K53 hK53 => ?_
 refine zR 1 ?_
 refine zN [(.int .u8 0), (zi 0), (zi 0)] 108 hs46 fun b56 w54 hs55 => ?_
 refine zT 0 [(.int .u8 6), (zi 8), (zi 1)] [(.int .u8 6), (zi 8), (zi 1)] hs55 fun w57 hs59 => ?_
 refine zD (hK53 _ _ ?_)
 refine W.seq fun K60 hK60 => ?_
 refine W.sr fun K61 hK61 => ?_
 refine zR 1 ?_
 refine zL ⟨b56, 0, none⟩ (.int .u8 6) (hs59.cellAt 0 rfl rfl) ?_
 refine zE 2 (hK61 _ _ ?_)
 refine W.cond_true true (by kernel_rfl) rfl ?_
 refine W.sr fun K62 hK62 => ?_
 refine zR 2 ?_
 refine zL ⟨b56, 1, none⟩ (zi 8) (hs59.cellAt 0 rfl rfl) ?_
 refine zR 1 ?_
 refine zL ⟨b56, 2, none⟩ (zi 1) (hs59.cellAt 0 rfl rfl) ?_
 refine zR 1 ?_
 refine ops_val (v := .int .i64 (IntKind.i64.wrap ((IntKind.i64.wrap (264 + (IntKind.i64.wrap (208 * gw)))) + 8))) (v' := .int .i64 (IntKind.i64.wrap ((IntKind.i64.wrap (264 + (IntKind.i64.wrap (208 * gw)))) + 8))) (by kernel_rfl) rfl ?_
 refine zE 1 (hK62 _ _ ?_)
 refine W.exit (exit_seq (exit_here ?_))
 refine hK52 _ _ ?_
 refine W.region ?_
 refine zE 2 ?_
 refine loopAt_next ?_
 refine loopAt_round ?_
 refine W.sr fun K63 hK63 => ?_
 refine zE 1 (hK63 _ _ ?_)
 refine W.seq fun K64 hK64 => ?_
 refine W.cond_true true (by kernel_rfl) rfl ?_
 refine W.skip ?_
 refine hK64 _ _ ?_
 refine W.seq fun K65 hK65 => ?_
 refine W.block ?_
 refine W.sr fun K66 hK66 => ?_
 refine zR 1 ?_
 refine zN [(.int .u8 0), (zi 0), (zi 0)] 108 hs59 fun b69 w67 hs68 => ?_
 refine zT 0 [(.int .u8 7), (zi 8), (zi 1)] [(.int .u8 7), (zi 8), (zi 1)] hs68 fun w70 hs72 => ?_
 refine zD (hK66 _ _ ?_)
 refine W.seq fun K73 hK73 => ?_
 refine W.sr fun K74 hK74 => ?_
 refine zR 1 ?_
 refine zL ⟨b69, 0, none⟩ (.int .u8 7) (hs72.cellAt 0 rfl rfl) ?_
 refine zE 2 (hK74 _ _ ?_)
 refine W.cond_true true (by kernel_rfl) rfl ?_
 refine W.sr fun K75 hK75 => ?_
 refine zR 2 ?_
 refine zL ⟨b69, 1, none⟩ (zi 8) (hs72.cellAt 0 rfl rfl) ?_
 refine zR 1 ?_
 refine zL ⟨b69, 2, none⟩ (zi 1) (hs72.cellAt 0 rfl rfl) ?_
 refine zR 1 ?_
 refine ops_val (v := .int .i64 (IntKind.i64.wrap ((IntKind.i64.wrap ((IntKind.i64.wrap (264 + (IntKind.i64.wrap (208 * gw)))) + 8)) + 8))) (v' := .int .i64 (IntKind.i64.wrap ((IntKind.i64.wrap ((IntKind.i64.wrap (264 + (IntKind.i64.wrap (208 * gw)))) + 8)) + 8))) (by kernel_rfl) rfl ?_
 refine zE 1 (hK75 _ _ ?_)
 refine W.exit (exit_seq (exit_here ?_))
 refine hK65 _ _ ?_
 refine W.region ?_
 refine zE 2 ?_
 refine loopAt_next ?_
 refine loopAt_round ?_
 refine W.sr fun K76 hK76 => ?_
 refine zE 1 (hK76 _ _ ?_)
 refine W.seq fun K77 hK77 => ?_
 refine W.cond_true true (by kernel_rfl) rfl ?_
 refine W.skip ?_
 refine hK77 _ _ ?_
 refine W.seq fun K78 hK78 => ?_
 refine W.block ?_
 refine W.sr fun K79 hK79 => ?_
 refine zR 1 ?_
 refine zN [(.int .u8 0), (zi 0), (zi 0)] 108 hs72 fun b82 w80 hs81 => ?_
 refine zT 0 [(.int .u8 8), (zi 16), (zi gi)] [(.int .u8 8), (zi 16), (zi gi)] hs81 fun w83 hs85 => ?_
 refine zD (hK79 _ _ ?_)
 refine W.seq fun K86 hK86 => ?_
 refine W.sr fun K87 hK87 => ?_
 refine zR 1 ?_
 refine zL ⟨b82, 0, none⟩ (.int .u8 8) (hs85.cellAt 0 rfl rfl) ?_
 refine zE 2 (hK87 _ _ ?_)
 refine W.cond_false false (by kernel_rfl) rfl ?_
 refine W.skip ?_
 refine hK86 _ _ ?_
 refine W.seq fun K88 hK88 => ?_
 refine W.sr fun K89 hK89 => ?_
 refine zG ⟨b4, 0, none⟩ [(zi gw), (zi gi), (zi gb)] (cells_sub (hs85.heapAt 6 rfl) rfl) ?_
 refine zC00 hs85 (may_spec (gw := gw) (gi := gi) (gb := gb) B _) fun w90 hs92 => ?_
 refine zR 1 ?_
 rcases Bool.eq_false_or_eq_true (decide (May gw gi gb)) with h93 | h93
 ·
  have h93p := of_decide_eq_true h93
  refine zS 28 h93 ?_
  refine zS 27 h93 ?_
  refine zR 2 ?_
  refine zL ⟨b82, 2, none⟩ (zi gi) (hs92.cellAt 0 rfl rfl) ?_
  refine ops_val (v := .int .i64 (IntKind.i64.wrap (gi - 1))) (v' := .int .i64 (IntKind.i64.wrap (gi - 1))) (by kernel_rfl) rfl ?_
  refine zC00 hs92 (within_spec (n_ := n_) (f_ := 0) (t_ := (IntKind.i64.wrap (gi - 1))) B _) fun w94 hs96 => ?_
  refine zE 1 (hK89 _ _ ?_)
  refine W.cond (decide (0 ≤ n_ ∧ n_ ≤ (IntKind.i64.wrap (gi - 1)))) (by kernel_rfl) (fun h97 => ?_) (fun h97 => ?_)
  ·
   have h97p := of_decide_eq_true h97
   refine W.sr fun K98 hK98 => ?_
   refine zR 2 ?_
   refine zL ⟨b82, 1, none⟩ (zi 16) (hs96.cellAt 0 rfl rfl) ?_
   refine zR 1 ?_
   refine ops_val (v := .int .i64 (IntKind.i64.wrap (16 * n_))) (v' := .int .i64 (IntKind.i64.wrap (16 * n_))) (by kernel_rfl) rfl ?_
   refine ops_val (v := .int .i64 (IntKind.i64.wrap ((IntKind.i64.wrap ((IntKind.i64.wrap ((IntKind.i64.wrap (264 + (IntKind.i64.wrap (208 * gw)))) + 8)) + 8)) + (IntKind.i64.wrap (16 * n_))))) (v' := .int .i64 (IntKind.i64.wrap ((IntKind.i64.wrap ((IntKind.i64.wrap ((IntKind.i64.wrap (264 + (IntKind.i64.wrap (208 * gw)))) + 8)) + 8)) + (IntKind.i64.wrap (16 * n_))))) (by kernel_rfl) rfl ?_
   refine zE 1 (hK98 _ _ ?_)
   refine W.ret (ret_seq (ret_block (ret_seq (ret_seq (ret_block (ret_seq ?_))))))
   have hs99 := St.tk0 hs96
   by_cases hm : May gw gi gb
   ·
    have hm_ : (1 ≤ gw ∧ gw ≤ 4) ∧ (2 ≤ gi ∧ gi ≤ 64) ∧ (2 ≤ gb ∧ gb ≤ 512) := hm
    have q0 : (IntKind.i64.wrap (gi - 1)) = (gi - 1) := (congrArg IntKind.i64.wrap (by omega : (gi - 1) = (gi - 1))).trans (wrap_i64 (by omega) (by omega))
    have q1 : (IntKind.i64.wrap (208 * gw)) = (208 * gw) := (congrArg IntKind.i64.wrap (by omega : (208 * gw) = (208 * gw))).trans (wrap_i64 (by omega) (by omega))
    have q2 : (IntKind.i64.wrap (264 + (IntKind.i64.wrap (208 * gw)))) = (264 + ((208 * gw))) := (congrArg IntKind.i64.wrap (by omega : (264 + (IntKind.i64.wrap (208 * gw))) = (264 + ((208 * gw))))).trans (wrap_i64 (by omega) (by omega))
    have q3 : (IntKind.i64.wrap ((IntKind.i64.wrap (264 + (IntKind.i64.wrap (208 * gw)))) + 8)) = (((264 + ((208 * gw)))) + 8) := (congrArg IntKind.i64.wrap (by omega : ((IntKind.i64.wrap (264 + (IntKind.i64.wrap (208 * gw)))) + 8) = (((264 + ((208 * gw)))) + 8))).trans (wrap_i64 (by omega) (by omega))
    have q4 : (IntKind.i64.wrap ((IntKind.i64.wrap ((IntKind.i64.wrap (264 + (IntKind.i64.wrap (208 * gw)))) + 8)) + 8)) = (((((264 + ((208 * gw)))) + 8)) + 8) := (congrArg IntKind.i64.wrap (by omega : ((IntKind.i64.wrap ((IntKind.i64.wrap (264 + (IntKind.i64.wrap (208 * gw)))) + 8)) + 8) = (((((264 + ((208 * gw)))) + 8)) + 8))).trans (wrap_i64 (by omega) (by omega))
    have q5 : (IntKind.i64.wrap (16 * n_)) = (16 * n_) := (congrArg IntKind.i64.wrap (by omega : (16 * n_) = (16 * n_))).trans (wrap_i64 (by omega) (by omega))
    have q6 : (IntKind.i64.wrap ((IntKind.i64.wrap ((IntKind.i64.wrap ((IntKind.i64.wrap (264 + (IntKind.i64.wrap (208 * gw)))) + 8)) + 8)) + (IntKind.i64.wrap (16 * n_)))) = (((((((264 + ((208 * gw)))) + 8)) + 8)) + ((16 * n_))) := (congrArg IntKind.i64.wrap (by omega : ((IntKind.i64.wrap ((IntKind.i64.wrap ((IntKind.i64.wrap (264 + (IntKind.i64.wrap (208 * gw)))) + 8)) + 8)) + (IntKind.i64.wrap (16 * n_))) = (((((((264 + ((208 * gw)))) + 8)) + 8)) + ((16 * n_))))).trans (wrap_i64 (by omega) (by omega))
    refine ret_of (zi (IntKind.i64.wrap ((IntKind.i64.wrap ((IntKind.i64.wrap ((IntKind.i64.wrap (264 + (IntKind.i64.wrap (208 * gw)))) + 8)) + 8)) + (IntKind.i64.wrap (16 * n_))))) (by kernel_rfl) ⟨_, ⟨congrArg (Value.int .i64) (by first | contradiction | (simp only [placeOf, if_pos hm]; split <;> omega) | (simp only [placeOf, if_pos hm]; omega)), rfl⟩, hs99⟩
   refine ret_of (zi (IntKind.i64.wrap ((IntKind.i64.wrap ((IntKind.i64.wrap ((IntKind.i64.wrap (264 + (IntKind.i64.wrap (208 * gw)))) + 8)) + 8)) + (IntKind.i64.wrap (16 * n_))))) (by kernel_rfl) ⟨_, ⟨congrArg (Value.int .i64) (by first | contradiction | (simp only [placeOf, if_neg hm]; done)), rfl⟩, hs99⟩
  have h97p := of_decide_eq_false h97
  refine W.skip ?_
  refine hK88 _ _ ?_
  refine W.exit (exit_block (by decide) (exit_seq (exit_seq (exit_here ?_))))
  refine hK6 _ _ ?_
  refine W.sr fun K100 hK100 => ?_
  refine zE 1 (hK100 _ _ ?_)
  refine W.ret ?_
  have hs101 := St.tk0 hs96
  by_cases hm : May gw gi gb
  ·
   have hm_ : (1 ≤ gw ∧ gw ≤ 4) ∧ (2 ≤ gi ∧ gi ≤ 64) ∧ (2 ≤ gb ∧ gb ≤ 512) := hm
   have q0 : (IntKind.i64.wrap (gi - 1)) = (gi - 1) := (congrArg IntKind.i64.wrap (by omega : (gi - 1) = (gi - 1))).trans (wrap_i64 (by omega) (by omega))
   refine ret_of (zi (-1)) (by kernel_rfl) ⟨_, ⟨congrArg (Value.int .i64) (by first | contradiction | (simp only [placeOf, if_pos hm]; split <;> omega) | (simp only [placeOf, if_pos hm]; omega)), rfl⟩, hs101⟩
  refine ret_of (zi (-1)) (by kernel_rfl) ⟨_, ⟨congrArg (Value.int .i64) (by first | contradiction | (simp only [placeOf, if_neg hm]; done)), rfl⟩, hs101⟩
 have h93p := of_decide_eq_false h93
 refine zS 28 h93 ?_
 refine zS 27 h93 ?_
 refine zE 6 (hK89 _ _ ?_)
 refine W.cond_false false (by kernel_rfl) rfl ?_
 refine W.skip ?_
 refine hK88 _ _ ?_
 refine W.exit (exit_block (by decide) (exit_seq (exit_seq (exit_here ?_))))
 refine hK6 _ _ ?_
 refine W.sr fun K102 hK102 => ?_
 refine zE 1 (hK102 _ _ ?_)
 refine W.ret ?_
 have hs103 := St.tk0 hs92
 by_cases hm : May gw gi gb
 ·
  have hm_ : (1 ≤ gw ∧ gw ≤ 4) ∧ (2 ≤ gi ∧ gi ≤ 64) ∧ (2 ≤ gb ∧ gb ≤ 512) := hm
  refine ret_of (zi (-1)) (by kernel_rfl) ⟨_, ⟨congrArg (Value.int .i64) (by first | contradiction | (simp only [placeOf, if_pos hm]; split <;> omega) | (simp only [placeOf, if_pos hm]; omega)), rfl⟩, hs103⟩
 refine ret_of (zi (-1)) (by kernel_rfl) ⟨_, ⟨congrArg (Value.int .i64) (by first | contradiction | (simp only [placeOf, if_neg hm]; done)), rfl⟩, hs103⟩
theorem place9_spec {gw gi gb n_ : Int} (B : Nat) (w : World) : Spec Try.prog 77 #[(.agg #[(zi gw), (zi gi), (zi gb)]), (.int .u8 9), (zi n_)] B w [] (fun v H' => v = .int .i64 (placeOf 9 gw gi gb n_) ∧ H' = []) := by
 refine spec_Q Try.func77 rfl fun hs => ?_
 refine W.sr fun K1 hK1 => ?_
 refine zN [(zi gw), (zi gi), (zi gb)] 33 hs fun b4 w2 hs3 => ?_
 refine zE 1 (hK1 _ _ ?_)
 refine W.sr fun K5 hK5 => ?_
 refine zE 1 (hK5 _ _ ?_)
 refine W.seq fun K6 hK6 => ?_
 refine W.sr fun K7 hK7 => ?_
 refine zG ⟨b4, 0, none⟩ [(zi gw), (zi gi), (zi gb)] (cells_sub (hs3.heapAt 0 rfl) rfl) ?_
 refine zC00 hs3 (rows_spec (gw := gw) (gi := gi) (gb := gb) B _) fun w8 hs10 => ?_
 refine zE 1 (hK7 _ _ ?_)
 refine W.block ?_
 refine W.loop_start ?_
 refine loopAt_round ?_
 refine W.sr fun K11 hK11 => ?_
 refine zE 1 (hK11 _ _ ?_)
 refine W.seq fun K12 hK12 => ?_
 refine W.cond_true true (by kernel_rfl) rfl ?_
 refine W.skip ?_
 refine hK12 _ _ ?_
 refine W.seq fun K13 hK13 => ?_
 refine W.block ?_
 refine W.sr fun K14 hK14 => ?_
 refine zR 1 ?_
 refine zN [(.int .u8 0), (zi 0), (zi 0)] 108 hs10 fun b17 w15 hs16 => ?_
 refine zT 0 [(.int .u8 1), (zi 8), (zi 1)] [(.int .u8 1), (zi 8), (zi 1)] hs16 fun w18 hs20 => ?_
 refine zD (hK14 _ _ ?_)
 refine W.seq fun K21 hK21 => ?_
 refine W.sr fun K22 hK22 => ?_
 refine zR 1 ?_
 refine zL ⟨b17, 0, none⟩ (.int .u8 1) (hs20.cellAt 0 rfl rfl) ?_
 refine zE 2 (hK22 _ _ ?_)
 refine W.cond_true true (by kernel_rfl) rfl ?_
 refine W.sr fun K23 hK23 => ?_
 refine zR 2 ?_
 refine zL ⟨b17, 1, none⟩ (zi 8) (hs20.cellAt 0 rfl rfl) ?_
 refine zR 1 ?_
 refine zL ⟨b17, 2, none⟩ (zi 1) (hs20.cellAt 0 rfl rfl) ?_
 refine zE 3 (hK23 _ _ ?_)
 refine W.exit (exit_seq (exit_here ?_))
 refine hK13 _ _ ?_
 refine W.region ?_
 refine zE 2 ?_
 refine loopAt_next ?_
 refine loopAt_round ?_
 refine W.sr fun K24 hK24 => ?_
 refine zE 1 (hK24 _ _ ?_)
 refine W.seq fun K25 hK25 => ?_
 refine W.cond_true true (by kernel_rfl) rfl ?_
 refine W.skip ?_
 refine hK25 _ _ ?_
 refine W.seq fun K26 hK26 => ?_
 refine W.block ?_
 refine W.sr fun K27 hK27 => ?_
 refine zR 1 ?_
 refine zN [(.int .u8 0), (zi 0), (zi 0)] 108 hs20 fun b30 w28 hs29 => ?_
 refine zT 0 [(.int .u8 2), (zi 64), (zi 4)] [(.int .u8 2), (zi 64), (zi 4)] hs29 fun w31 hs33 => ?_
 refine zD (hK27 _ _ ?_)
 refine W.seq fun K34 hK34 => ?_
 refine W.sr fun K35 hK35 => ?_
 refine zR 1 ?_
 refine zL ⟨b30, 0, none⟩ (.int .u8 2) (hs33.cellAt 0 rfl rfl) ?_
 refine zE 2 (hK35 _ _ ?_)
 refine W.cond_true true (by kernel_rfl) rfl ?_
 refine W.sr fun K36 hK36 => ?_
 refine zR 2 ?_
 refine zL ⟨b30, 1, none⟩ (zi 64) (hs33.cellAt 0 rfl rfl) ?_
 refine zR 1 ?_
 refine zL ⟨b30, 2, none⟩ (zi 4) (hs33.cellAt 0 rfl rfl) ?_
 refine zE 3 (hK36 _ _ ?_)
 refine W.exit (exit_seq (exit_here ?_))
 refine hK26 _ _ ?_
 refine W.region ?_
 refine zE 2 ?_
 refine loopAt_next ?_
 refine loopAt_round ?_
 refine W.sr fun K37 hK37 => ?_
 refine zE 1 (hK37 _ _ ?_)
 refine W.seq fun K38 hK38 => ?_
 refine W.cond_true true (by kernel_rfl) rfl ?_
 refine W.skip ?_
 refine hK38 _ _ ?_
 refine W.seq fun K39 hK39 => ?_
 refine W.block ?_
 refine W.sr fun K40 hK40 => ?_
 refine zR 1 ?_
 refine zN [(.int .u8 0), (zi 0), (zi 0)] 108 hs33 fun b43 w41 hs42 => ?_
 refine zT 0 [(.int .u8 5), (zi 208), (zi gw)] [(.int .u8 5), (zi 208), (zi gw)] hs42 fun w44 hs46 => ?_
 refine zD (hK40 _ _ ?_)
 refine W.seq fun K47 hK47 => ?_
 refine W.sr fun K48 hK48 => ?_
 refine zR 1 ?_
 refine zL ⟨b43, 0, none⟩ (.int .u8 5) (hs46.cellAt 0 rfl rfl) ?_
 refine zE 2 (hK48 _ _ ?_)
 refine W.cond_true true (by kernel_rfl) rfl ?_
 refine W.sr fun K49 hK49 => ?_
 refine zR 2 ?_
 refine zL ⟨b43, 1, none⟩ (zi 208) (hs46.cellAt 0 rfl rfl) ?_
 refine zR 1 ?_
 refine zL ⟨b43, 2, none⟩ (zi gw) (hs46.cellAt 0 rfl rfl) ?_
 refine ops_val (v := .int .i64 (IntKind.i64.wrap (208 * gw))) (v' := .int .i64 (IntKind.i64.wrap (208 * gw))) (by kernel_rfl) rfl ?_
 refine ops_val (v := .int .i64 (IntKind.i64.wrap (264 + (IntKind.i64.wrap (208 * gw))))) (v' := .int .i64 (IntKind.i64.wrap (264 + (IntKind.i64.wrap (208 * gw))))) (by kernel_rfl) rfl ?_
 refine zE 1 (hK49 _ _ ?_)
 refine W.exit (exit_seq (exit_here ?_))
 refine hK39 _ _ ?_
 refine W.region ?_
 refine zE 2 ?_
 refine loopAt_next ?_
 refine loopAt_round ?_
 refine W.sr fun K50 hK50 => ?_
 refine zE 1 (hK50 _ _ ?_)
 refine W.seq fun K51 hK51 => ?_
 refine W.cond_true true (by kernel_rfl) rfl ?_
 refine W.skip ?_
 refine hK51 _ _ ?_
 refine W.seq fun K52 hK52 => ?_
 refine W.block ?_
 refine W.sr fun K53 hK53 => ?_
 refine zR 1 ?_
 refine zN [(.int .u8 0), (zi 0), (zi 0)] 108 hs46 fun b56 w54 hs55 => ?_
 refine zT 0 [(.int .u8 6), (zi 8), (zi 1)] [(.int .u8 6), (zi 8), (zi 1)] hs55 fun w57 hs59 => ?_
 refine zD (hK53 _ _ ?_)
 refine W.seq fun K60 hK60 => ?_
 refine W.sr fun K61 hK61 => ?_
 refine zR 1 ?_
 refine zL ⟨b56, 0, none⟩ (.int .u8 6) (hs59.cellAt 0 rfl rfl) ?_
 refine zE 2 (hK61 _ _ ?_)
 refine W.cond_true true (by kernel_rfl) rfl ?_
 refine W.sr fun K62 hK62 => ?_
 refine zR 2 ?_
 refine zL ⟨b56, 1, none⟩ (zi 8) (hs59.cellAt 0 rfl rfl) ?_
 refine zR 1 ?_
 refine zL ⟨b56, 2, none⟩ (zi 1) (hs59.cellAt 0 rfl rfl) ?_
 refine zR 1 ?_
 refine ops_val (v := .int .i64 (IntKind.i64.wrap ((IntKind.i64.wrap (264 + (IntKind.i64.wrap (208 * gw)))) + 8))) (v' := .int .i64 (IntKind.i64.wrap ((IntKind.i64.wrap (264 + (IntKind.i64.wrap (208 * gw)))) + 8))) (by kernel_rfl) rfl ?_
 refine zE 1 (hK62 _ _ ?_)
 refine W.exit (exit_seq (exit_here ?_))
 refine hK52 _ _ ?_
 refine W.region ?_
 refine zE 2 ?_
 refine loopAt_next ?_
 refine loopAt_round ?_
 refine W.sr fun K63 hK63 => ?_
 refine zE 1 (hK63 _ _ ?_)
 refine W.seq fun K64 hK64 => ?_
 refine W.cond_true true (by kernel_rfl) rfl ?_
 refine W.skip ?_
 refine hK64 _ _ ?_
 refine W.seq fun K65 hK65 => ?_
 refine W.block ?_
 refine W.sr fun K66 hK66 => ?_
 refine zR 1 ?_
 refine zN [(.int .u8 0), (zi 0), (zi 0)] 108 hs59 fun b69 w67 hs68 => ?_
 refine zT 0 [(.int .u8 7), (zi 8), (zi 1)] [(.int .u8 7), (zi 8), (zi 1)] hs68 fun w70 hs72 => ?_
 refine zD (hK66 _ _ ?_)
 refine W.seq fun K73 hK73 => ?_
 refine W.sr fun K74 hK74 => ?_
 refine zR 1 ?_
 refine zL ⟨b69, 0, none⟩ (.int .u8 7) (hs72.cellAt 0 rfl rfl) ?_
 refine zE 2 (hK74 _ _ ?_)
 refine W.cond_true true (by kernel_rfl) rfl ?_
 refine W.sr fun K75 hK75 => ?_
 refine zR 2 ?_
 refine zL ⟨b69, 1, none⟩ (zi 8) (hs72.cellAt 0 rfl rfl) ?_
 refine zR 1 ?_
 refine zL ⟨b69, 2, none⟩ (zi 1) (hs72.cellAt 0 rfl rfl) ?_
 refine zR 1 ?_
 refine ops_val (v := .int .i64 (IntKind.i64.wrap ((IntKind.i64.wrap ((IntKind.i64.wrap (264 + (IntKind.i64.wrap (208 * gw)))) + 8)) + 8))) (v' := .int .i64 (IntKind.i64.wrap ((IntKind.i64.wrap ((IntKind.i64.wrap (264 + (IntKind.i64.wrap (208 * gw)))) + 8)) + 8))) (by kernel_rfl) rfl ?_
 refine zE 1 (hK75 _ _ ?_)
 refine W.exit (exit_seq (exit_here ?_))
 refine hK65 _ _ ?_
 refine W.region ?_
 refine zE 2 ?_
 refine loopAt_next ?_
 refine loopAt_round ?_
 refine W.sr fun K76 hK76 => ?_
 refine zE 1 (hK76 _ _ ?_)
 refine W.seq fun K77 hK77 => ?_
 refine W.cond_true true (by kernel_rfl) rfl ?_
 refine W.skip ?_
 refine hK77 _ _ ?_
 refine W.seq fun K78 hK78 => ?_
 refine W.block ?_
 refine W.sr fun K79 hK79 => ?_
 refine zR 1 ?_
 refine zN [(.int .u8 0), (zi 0), (zi 0)] 108 hs72 fun b82 w80 hs81 => ?_
 refine zT 0 [(.int .u8 8), (zi 16), (zi gi)] [(.int .u8 8), (zi 16), (zi gi)] hs81 fun w83 hs85 => ?_
 refine zD (hK79 _ _ ?_)
 refine W.seq fun K86 hK86 => ?_
 refine W.sr fun K87 hK87 => ?_
 refine zR 1 ?_
 refine zL ⟨b82, 0, none⟩ (.int .u8 8) (hs85.cellAt 0 rfl rfl) ?_
 refine zE 2 (hK87 _ _ ?_)
 refine W.cond_true true (by kernel_rfl) rfl ?_
 refine W.sr fun K88 hK88 => ?_
 refine zR 2 ?_
 refine zL ⟨b82, 1, none⟩ (zi 16) (hs85.cellAt 0 rfl rfl) ?_
 refine zR 1 ?_
 refine zL ⟨b82, 2, none⟩ (zi gi) (hs85.cellAt 0 rfl rfl) ?_
 refine ops_val (v := .int .i64 (IntKind.i64.wrap (16 * gi))) (v' := .int .i64 (IntKind.i64.wrap (16 * gi))) (by kernel_rfl) rfl ?_
 refine ops_val (v := .int .i64 (IntKind.i64.wrap ((IntKind.i64.wrap ((IntKind.i64.wrap ((IntKind.i64.wrap (264 + (IntKind.i64.wrap (208 * gw)))) + 8)) + 8)) + (IntKind.i64.wrap (16 * gi))))) (v' := .int .i64 (IntKind.i64.wrap ((IntKind.i64.wrap ((IntKind.i64.wrap ((IntKind.i64.wrap (264 + (IntKind.i64.wrap (208 * gw)))) + 8)) + 8)) + (IntKind.i64.wrap (16 * gi))))) (by kernel_rfl) rfl ?_
 refine zE 1 (hK88 _ _ ?_)
 refine W.exit (exit_seq (exit_here ?_))
 refine hK78 _ _ ?_
 refine W.region ?_
 refine zE 2 ?_
 refine loopAt_next ?_
 refine loopAt_round ?_
 refine W.sr fun K89 hK89 => ?_
 refine zE 1 (hK89 _ _ ?_)
 refine W.seq fun K90 hK90 => ?_
 refine W.cond_true true (by kernel_rfl) rfl ?_
 refine W.skip ?_
 refine hK90 _ _ ?_
 refine W.seq fun K91 hK91 => ?_
 refine W.block ?_
 refine W.sr fun K92 hK92 => ?_
 refine zR 1 ?_
 refine zN [(.int .u8 0), (zi 0), (zi 0)] 108 hs85 fun b95 w93 hs94 => ?_
 refine zT 0 [(.int .u8 9), (zi 8), (zi gb)] [(.int .u8 9), (zi 8), (zi gb)] hs94 fun w96 hs98 => ?_
 refine zD (hK92 _ _ ?_)
 refine W.seq fun K99 hK99 => ?_
 refine W.sr fun K100 hK100 => ?_
 refine zR 1 ?_
 refine zL ⟨b95, 0, none⟩ (.int .u8 9) (hs98.cellAt 0 rfl rfl) ?_
 refine zE 2 (hK100 _ _ ?_)
 refine W.cond_false false (by kernel_rfl) rfl ?_
 refine W.skip ?_
 refine hK99 _ _ ?_
 refine W.seq fun K101 hK101 => ?_
 refine W.sr fun K102 hK102 => ?_
 refine zG ⟨b4, 0, none⟩ [(zi gw), (zi gi), (zi gb)] (cells_sub (hs98.heapAt 7 rfl) rfl) ?_
 refine zC00 hs98 (may_spec (gw := gw) (gi := gi) (gb := gb) B _) fun w103 hs105 => ?_
 refine zR 1 ?_
 rcases Bool.eq_false_or_eq_true (decide (May gw gi gb)) with h106 | h106
 ·
  have h106p := of_decide_eq_true h106
  refine zS 28 h106 ?_
  refine zS 27 h106 ?_
  refine zR 2 ?_
  refine zL ⟨b95, 2, none⟩ (zi gb) (hs105.cellAt 0 rfl rfl) ?_
  refine ops_val (v := .int .i64 (IntKind.i64.wrap (gb - 1))) (v' := .int .i64 (IntKind.i64.wrap (gb - 1))) (by kernel_rfl) rfl ?_
  refine zC00 hs105 (within_spec (n_ := n_) (f_ := 0) (t_ := (IntKind.i64.wrap (gb - 1))) B _) fun w107 hs109 => ?_
  refine zE 1 (hK102 _ _ ?_)
  refine W.cond (decide (0 ≤ n_ ∧ n_ ≤ (IntKind.i64.wrap (gb - 1)))) (by kernel_rfl) (fun h110 => ?_) (fun h110 => ?_)
  ·
   have h110p := of_decide_eq_true h110
   refine W.sr fun K111 hK111 => ?_
   refine zR 2 ?_
   refine zL ⟨b95, 1, none⟩ (zi 8) (hs109.cellAt 0 rfl rfl) ?_
   refine zR 1 ?_
   refine ops_val (v := .int .i64 (IntKind.i64.wrap (8 * n_))) (v' := .int .i64 (IntKind.i64.wrap (8 * n_))) (by kernel_rfl) rfl ?_
   refine ops_val (v := .int .i64 (IntKind.i64.wrap ((IntKind.i64.wrap ((IntKind.i64.wrap ((IntKind.i64.wrap ((IntKind.i64.wrap (264 + (IntKind.i64.wrap (208 * gw)))) + 8)) + 8)) + (IntKind.i64.wrap (16 * gi)))) + (IntKind.i64.wrap (8 * n_))))) (v' := .int .i64 (IntKind.i64.wrap ((IntKind.i64.wrap ((IntKind.i64.wrap ((IntKind.i64.wrap ((IntKind.i64.wrap (264 + (IntKind.i64.wrap (208 * gw)))) + 8)) + 8)) + (IntKind.i64.wrap (16 * gi)))) + (IntKind.i64.wrap (8 * n_))))) (by kernel_rfl) rfl ?_
   refine zE 1 (hK111 _ _ ?_)
   refine W.ret (ret_seq (ret_block (ret_seq (ret_seq (ret_block (ret_seq ?_))))))
   have hs112 := St.tk0 hs109
   by_cases hm : May gw gi gb
   ·
    have hm_ : (1 ≤ gw ∧ gw ≤ 4) ∧ (2 ≤ gi ∧ gi ≤ 64) ∧ (2 ≤ gb ∧ gb ≤ 512) := hm
    have q0 : (IntKind.i64.wrap (gb - 1)) = (gb - 1) := (congrArg IntKind.i64.wrap (by omega : (gb - 1) = (gb - 1))).trans (wrap_i64 (by omega) (by omega))
    have q1 : (IntKind.i64.wrap (16 * gi)) = (16 * gi) := (congrArg IntKind.i64.wrap (by omega : (16 * gi) = (16 * gi))).trans (wrap_i64 (by omega) (by omega))
    have q2 : (IntKind.i64.wrap (208 * gw)) = (208 * gw) := (congrArg IntKind.i64.wrap (by omega : (208 * gw) = (208 * gw))).trans (wrap_i64 (by omega) (by omega))
    have q3 : (IntKind.i64.wrap (264 + (IntKind.i64.wrap (208 * gw)))) = (264 + ((208 * gw))) := (congrArg IntKind.i64.wrap (by omega : (264 + (IntKind.i64.wrap (208 * gw))) = (264 + ((208 * gw))))).trans (wrap_i64 (by omega) (by omega))
    have q4 : (IntKind.i64.wrap ((IntKind.i64.wrap (264 + (IntKind.i64.wrap (208 * gw)))) + 8)) = (((264 + ((208 * gw)))) + 8) := (congrArg IntKind.i64.wrap (by omega : ((IntKind.i64.wrap (264 + (IntKind.i64.wrap (208 * gw)))) + 8) = (((264 + ((208 * gw)))) + 8))).trans (wrap_i64 (by omega) (by omega))
    have q5 : (IntKind.i64.wrap ((IntKind.i64.wrap ((IntKind.i64.wrap (264 + (IntKind.i64.wrap (208 * gw)))) + 8)) + 8)) = (((((264 + ((208 * gw)))) + 8)) + 8) := (congrArg IntKind.i64.wrap (by omega : ((IntKind.i64.wrap ((IntKind.i64.wrap (264 + (IntKind.i64.wrap (208 * gw)))) + 8)) + 8) = (((((264 + ((208 * gw)))) + 8)) + 8))).trans (wrap_i64 (by omega) (by omega))
    have q6 : (IntKind.i64.wrap ((IntKind.i64.wrap ((IntKind.i64.wrap ((IntKind.i64.wrap (264 + (IntKind.i64.wrap (208 * gw)))) + 8)) + 8)) + (IntKind.i64.wrap (16 * gi)))) = (((((((264 + ((208 * gw)))) + 8)) + 8)) + ((16 * gi))) := (congrArg IntKind.i64.wrap (by omega : ((IntKind.i64.wrap ((IntKind.i64.wrap ((IntKind.i64.wrap (264 + (IntKind.i64.wrap (208 * gw)))) + 8)) + 8)) + (IntKind.i64.wrap (16 * gi))) = (((((((264 + ((208 * gw)))) + 8)) + 8)) + ((16 * gi))))).trans (wrap_i64 (by omega) (by omega))
    have q7 : (IntKind.i64.wrap (8 * n_)) = (8 * n_) := (congrArg IntKind.i64.wrap (by omega : (8 * n_) = (8 * n_))).trans (wrap_i64 (by omega) (by omega))
    have q8 : (IntKind.i64.wrap ((IntKind.i64.wrap ((IntKind.i64.wrap ((IntKind.i64.wrap ((IntKind.i64.wrap (264 + (IntKind.i64.wrap (208 * gw)))) + 8)) + 8)) + (IntKind.i64.wrap (16 * gi)))) + (IntKind.i64.wrap (8 * n_)))) = (((((((((264 + ((208 * gw)))) + 8)) + 8)) + ((16 * gi)))) + ((8 * n_))) := (congrArg IntKind.i64.wrap (by omega : ((IntKind.i64.wrap ((IntKind.i64.wrap ((IntKind.i64.wrap ((IntKind.i64.wrap (264 + (IntKind.i64.wrap (208 * gw)))) + 8)) + 8)) + (IntKind.i64.wrap (16 * gi)))) + (IntKind.i64.wrap (8 * n_))) = (((((((((264 + ((208 * gw)))) + 8)) + 8)) + ((16 * gi)))) + ((8 * n_))))).trans (wrap_i64 (by omega) (by omega))
    refine ret_of (zi (IntKind.i64.wrap ((IntKind.i64.wrap ((IntKind.i64.wrap ((IntKind.i64.wrap ((IntKind.i64.wrap (264 + (IntKind.i64.wrap (208 * gw)))) + 8)) + 8)) + (IntKind.i64.wrap (16 * gi)))) + (IntKind.i64.wrap (8 * n_))))) (by kernel_rfl) ⟨_, ⟨congrArg (Value.int .i64) (by first | contradiction | (simp only [placeOf, if_pos hm]; split <;> omega) | (simp only [placeOf, if_pos hm]; omega)), rfl⟩, hs112⟩
   refine ret_of (zi (IntKind.i64.wrap ((IntKind.i64.wrap ((IntKind.i64.wrap ((IntKind.i64.wrap ((IntKind.i64.wrap (264 + (IntKind.i64.wrap (208 * gw)))) + 8)) + 8)) + (IntKind.i64.wrap (16 * gi)))) + (IntKind.i64.wrap (8 * n_))))) (by kernel_rfl) ⟨_, ⟨congrArg (Value.int .i64) (by first | contradiction | (simp only [placeOf, if_neg hm]; done)), rfl⟩, hs112⟩
  have h110p := of_decide_eq_false h110
  refine W.skip ?_
  refine hK101 _ _ ?_
  refine W.exit (exit_block (by decide) (exit_seq (exit_seq (exit_here ?_))))
  refine hK6 _ _ ?_
  refine W.sr fun K113 hK113 => ?_
  refine zE 1 (hK113 _ _ ?_)
  refine W.ret ?_
  have hs114 := St.tk0 hs109
  by_cases hm : May gw gi gb
  ·
   have hm_ : (1 ≤ gw ∧ gw ≤ 4) ∧ (2 ≤ gi ∧ gi ≤ 64) ∧ (2 ≤ gb ∧ gb ≤ 512) := hm
   have q0 : (IntKind.i64.wrap (gb - 1)) = (gb - 1) := (congrArg IntKind.i64.wrap (by omega : (gb - 1) = (gb - 1))).trans (wrap_i64 (by omega) (by omega))
   refine ret_of (zi (-1)) (by kernel_rfl) ⟨_, ⟨congrArg (Value.int .i64) (by first | contradiction | (simp only [placeOf, if_pos hm]; split <;> omega) | (simp only [placeOf, if_pos hm]; omega)), rfl⟩, hs114⟩
  refine ret_of (zi (-1)) (by kernel_rfl) ⟨_, ⟨congrArg (Value.int .i64) (by first | contradiction | (simp only [placeOf, if_neg hm]; done)), rfl⟩, hs114⟩
 have h106p := of_decide_eq_false h106
 refine zS 28 h106 ?_
 refine zS 27 h106 ?_
 refine zE 6 (hK102 _ _ ?_)
 refine W.cond_false false (by kernel_rfl) rfl ?_
 refine W.skip ?_
 refine hK101 _ _ ?_
 refine W.exit (exit_block (by decide) (exit_seq (exit_seq (exit_here ?_))))
 refine hK6 _ _ ?_
 refine W.sr fun K115 hK115 => ?_
 refine zE 1 (hK115 _ _ ?_)
 refine W.ret ?_
 have hs116 := St.tk0 hs105
 by_cases hm : May gw gi gb
 ·
  have hm_ : (1 ≤ gw ∧ gw ≤ 4) ∧ (2 ≤ gi ∧ gi ≤ 64) ∧ (2 ≤ gb ∧ gb ≤ 512) := hm
  refine ret_of (zi (-1)) (by kernel_rfl) ⟨_, ⟨congrArg (Value.int .i64) (by first | contradiction | (simp only [placeOf, if_pos hm]; split <;> omega) | (simp only [placeOf, if_pos hm]; omega)), rfl⟩, hs116⟩
 refine ret_of (zi (-1)) (by kernel_rfl) ⟨_, ⟨congrArg (Value.int .i64) (by first | contradiction | (simp only [placeOf, if_neg hm]; done)), rfl⟩, hs116⟩
theorem inodeat_spec {gw gi gb n_ : Int} (B : Nat) (w : World) : Spec Try.prog 62 #[(.agg #[(zi gw), (zi gi), (zi gb)]), (zi n_)] B w [] (fun v H' => v = .int .i64 (placeOf 8 gw gi gb n_) ∧ H' = []) := by
 refine spec_Q Try.func62 rfl fun hs => ?_
 refine W.sr fun K1 hK1 => ?_
 refine zN [(zi gw), (zi gi), (zi gb)] 33 hs fun b4 w2 hs3 => ?_
 refine zE 1 (hK1 _ _ ?_)
 refine W.sr fun K5 hK5 => ?_
 refine zG ⟨b4, 0, none⟩ [(zi gw), (zi gi), (zi gb)] (cells_sub (hs3.heapAt 0 rfl) rfl) ?_
 refine zR 1 ?_
 refine zC00 hs3 (place8_spec (gw := gw) (gi := gi) (gb := gb) (n_ := n_) B _) fun w6 hs8 => ?_
 refine zE 1 (hK5 _ _ ?_)
 refine W.ret ?_
 have hs9 := St.tk0 hs8
 refine ret_of (zi (placeOf 8 gw gi gb n_)) (by kernel_rfl) ⟨_, ⟨rfl, rfl⟩, hs9⟩
theorem areas_spec  (B : Nat) (w : World) : Spec Try.prog 65 #[] B w [] (fun v H' => v = .int .i64 264 ∧ H' = []) := by
 refine spec_Q Try.func65 rfl fun hs => ?_
 refine W.sr fun K1 hK1 => ?_
 refine zE 1 (hK1 _ _ ?_)
 refine W.sr fun K2 hK2 => ?_
 refine zE 1 (hK2 _ _ ?_)
 refine W.ret ?_
 refine ret_of (zi 264) (by kernel_rfl) ⟨_, ⟨rfl, rfl⟩, hs⟩
theorem maps_spec {gw gi gb : Int} (B : Nat) (w : World) (hm : May gw gi gb) : Spec Try.prog 50 #[(.agg #[(zi gw), (zi gi), (zi gb)])] B w [] (fun v H' => v = .int .i64 (264 + 208 * gw) ∧ H' = []) := by
 refine spec_Q Try.func50 rfl fun hs => ?_
 have hm_ : (1 ≤ gw ∧ gw ≤ 4) ∧ (2 ≤ gi ∧ gi ≤ 64) ∧ (2 ≤ gb ∧ gb ≤ 512) := hm
 refine W.sr fun K1 hK1 => ?_
 refine zN [(zi gw), (zi gi), (zi gb)] 46 hs fun b4 w2 hs3 => ?_
 refine zE 1 (hK1 _ _ ?_)
 refine W.seq fun K5 hK5 => ?_
 have hs6 := hs3.drew
 refine W.regionD [(0, 0), (0, 0), (2, 2), (4, 4), (9, 9), (31, 16)] (fun w_ => St B w [] w_ [zb b4 46 [(zi gw), (zi gi), (zi gb)]]) (by kernel_rfl) hs6 ?_
 refine zA (zp b4) 1 hs6 ?_
 refine zB 2 ⟨b4, 0, none⟩ (zi gw) (fun _ hS_ => (hS_.cellAt 0 rfl rfl)) hs6 ?_
 refine any_val (v := .int .i64 (IntKind.i64.wrap (208 * gw))) (v' := .int .i64 (208 * gw)) 3 (by kernel_rfl) (fun _ => by kernel_rfl) (congrArg (Value.int .i64) (wrap_i64 (by omega) (by omega))) hs6 ?_
 refine any_step 0 (by kernel_rfl) (by kernel_rfl) ?_
 refine zC00 hs6 (areas_spec B _) fun w7 hs9 => ?_
 refine ops_done (by kernel_rfl) ⟨hs9, ?_⟩
 refine any_val (v := .int .i64 (IntKind.i64.wrap (264 + (208 * gw)))) (v' := .int .i64 (264 + (208 * gw))) 4 (by kernel_rfl) (fun _ => by kernel_rfl) (congrArg (Value.int .i64) (wrap_i64 (by omega) (by omega))) hs9 ?_
 refine zA (zi (264 + (208 * gw))) 5 hs9 ?_
 refine any_done (by kernel_rfl) ?_
 refine hK5 _ _ ?_
 refine W.ret ?_
 have hs10 := St.tk0 hs9
 refine ret_of (zi (264 + (208 * gw))) (by kernel_rfl) ⟨_, ⟨rfl, rfl⟩, hs10⟩
theorem rwords_spec {gw gi gb : Int} (B : Nat) (w : World) : Spec Try.prog 31 #[(.agg #[(zi gw), (zi gi), (zi gb)])] B w [] (fun v H' => v = .int .i64 (wordsOf gw gi gb) ∧ H' = []) := by
 refine spec_Q Try.func31 rfl fun hs => ?_
 refine W.sr fun K1 hK1 => ?_
 refine zN [(zi gw), (zi gi), (zi gb)] 46 hs fun b4 w2 hs3 => ?_
 refine zE 1 (hK1 _ _ ?_)
 refine W.seq fun K5 hK5 => ?_
 refine W.sr fun K6 hK6 => ?_
 refine zG ⟨b4, 0, none⟩ [(zi gw), (zi gi), (zi gb)] (cells_sub (hs3.heapAt 0 rfl) rfl) ?_
 refine zC00 hs3 (rmay_spec (gw := gw) (gi := gi) (gb := gb) B _) fun w7 hs9 => ?_
 refine zE 1 (hK6 _ _ ?_)
 refine W.cond (!(decide (May gw gi gb))) (by kernel_rfl) (fun h10 => ?_) (fun h10 => ?_)
 ·
  have h10p : ¬ (May gw gi gb) := of_decide_eq_false (bnot_true h10)
  have hm : ¬ May gw gi gb := h10p
  refine W.sr fun K11 hK11 => ?_
  refine zE 1 (hK11 _ _ ?_)
  refine W.ret (ret_seq ?_)
  have hs12 := St.tk0 hs9
  refine ret_of (zi 0) (by kernel_rfl) ⟨_, ⟨congrArg (Value.int .i64) (by first | contradiction | (simp only [wordsOf, if_pos hm]; omega) | (simp only [wordsOf, if_neg hm]; done)), rfl⟩, hs12⟩
 have h10p : May gw gi gb := of_decide_eq_true (bnot_false h10)
 have hm : May gw gi gb := h10p
 have hm_ : (1 ≤ gw ∧ gw ≤ 4) ∧ (2 ≤ gi ∧ gi ≤ 64) ∧ (2 ≤ gb ∧ gb ≤ 512) := hm
 refine W.skip ?_
 refine hK5 _ _ ?_
 refine W.seq fun K13 hK13 => ?_
 have hs14 := hs9.drew
 refine W.regionD [(0, 0), (1, 1), (2, 2), (0, 0), (8, 8), (16, 16), (36, 36), (0, 0), (128, 128), (256, 256), (576, 576), (2047, 1024)] (fun w_ => St B w [] w_ [zb b4 46 [(zi gw), (zi gi), (zi gb)]]) (by kernel_rfl) hs14 ?_
 refine any_R 0 (by kernel_rfl) (fun _ hS_ => runs_loadAgg (ad := ⟨b4, 0, none⟩) (cs := [(zi gw), (zi gi), (zi gb)]) (by kernel_rfl) (cells_sub (hS_.heapAt 0 rfl) rfl)) hs14 ?_
 refine zA (.pointer (some ⟨b4, 1, none⟩)) 3 hs14 ?_
 refine zB 4 ⟨b4, 1, none⟩ (zi gi) (fun _ hS_ => (hS_.cellAt 0 rfl rfl)) hs14 ?_
 refine any_val (v := .int .i64 (IntKind.i64.wrap (16 * gi))) (v' := .int .i64 (16 * gi)) 5 (by kernel_rfl) (fun _ => by kernel_rfl) (congrArg (Value.int .i64) (wrap_i64 (by omega) (by omega))) hs14 ?_
 refine zA (.pointer (some ⟨b4, 2, none⟩)) 7 hs14 ?_
 refine zB 8 ⟨b4, 2, none⟩ (zi gb) (fun _ hS_ => (hS_.cellAt 0 rfl rfl)) hs14 ?_
 refine any_val (v := .int .i64 (IntKind.i64.wrap (8 * gb))) (v' := .int .i64 (8 * gb)) 9 (by kernel_rfl) (fun _ => by kernel_rfl) (congrArg (Value.int .i64) (wrap_i64 (by omega) (by omega))) hs14 ?_
 refine any_step 1 (by kernel_rfl) (by kernel_rfl) ?_
 refine zC00 hs14 (maps_spec (hm := hm) (gw := gw) (gi := gi) (gb := gb) B _) fun w15 hs17 => ?_
 refine ops_done (by kernel_rfl) ⟨hs17, ?_⟩
 refine any_val (v := .int .i64 (IntKind.i64.wrap ((264 + 208 * gw) + 16))) (v' := .int .i64 ((264 + 208 * gw) + 16)) 2 (by kernel_rfl) (fun _ => by kernel_rfl) (congrArg (Value.int .i64) (wrap_i64 (by omega) (by omega))) hs17 ?_
 refine any_val (v := .int .i64 (IntKind.i64.wrap (((264 + 208 * gw) + 16) + (16 * gi)))) (v' := .int .i64 (((264 + 208 * gw) + 16) + (16 * gi))) 6 (by kernel_rfl) (fun _ => by kernel_rfl) (congrArg (Value.int .i64) (wrap_i64 (by omega) (by omega))) hs17 ?_
 refine any_val (v := .int .i64 (IntKind.i64.wrap ((((264 + 208 * gw) + 16) + (16 * gi)) + (8 * gb)))) (v' := .int .i64 ((((264 + 208 * gw) + 16) + (16 * gi)) + (8 * gb))) 10 (by kernel_rfl) (fun _ => by kernel_rfl) (congrArg (Value.int .i64) (wrap_i64 (by omega) (by omega))) hs17 ?_
 refine zA (zi ((((264 + 208 * gw) + 16) + (16 * gi)) + (8 * gb))) 11 hs17 ?_
 refine any_done (by kernel_rfl) ?_
 refine hK13 _ _ ?_
 refine W.ret ?_
 have hs18 := St.tk0 hs17
 refine ret_of (zi ((((264 + 208 * gw) + 16) + (16 * gi)) + (8 * gb))) (by kernel_rfl) ⟨_, ⟨congrArg (Value.int .i64) (by first | contradiction | (simp only [wordsOf, if_pos hm]; omega) | (simp only [wordsOf, if_neg hm]; done)), rfl⟩, hs18⟩
theorem rmapat_spec {gw gi gb : Int} (B : Nat) (w : World) : Spec Try.prog 32 #[(.agg #[(zi gw), (zi gi), (zi gb)])] B w [] (fun v H' => v = .int .i64 (placeOf 6 gw gi gb 0) ∧ H' = []) := by
 refine spec_Q Try.func32 rfl fun hs => ?_
 refine W.sr fun K1 hK1 => ?_
 refine zN [(zi gw), (zi gi), (zi gb)] 46 hs fun b4 w2 hs3 => ?_
 refine zE 1 (hK1 _ _ ?_)
 refine W.seq fun K5 hK5 => ?_
 refine W.sr fun K6 hK6 => ?_
 refine zG ⟨b4, 0, none⟩ [(zi gw), (zi gi), (zi gb)] (cells_sub (hs3.heapAt 0 rfl) rfl) ?_
 refine zC00 hs3 (rmay_spec (gw := gw) (gi := gi) (gb := gb) B _) fun w7 hs9 => ?_
 refine zE 1 (hK6 _ _ ?_)
 refine W.cond (!(decide (May gw gi gb))) (by kernel_rfl) (fun h10 => ?_) (fun h10 => ?_)
 ·
  have h10p : ¬ (May gw gi gb) := of_decide_eq_false (bnot_true h10)
  have hm : ¬ May gw gi gb := h10p
  refine W.sr fun K11 hK11 => ?_
  refine zE 1 (hK11 _ _ ?_)
  refine W.ret (ret_seq ?_)
  have hs12 := St.tk0 hs9
  refine ret_of (zi (-1)) (by kernel_rfl) ⟨_, ⟨congrArg (Value.int .i64) (by first | contradiction | (simp only [placeOf, if_pos hm]; split <;> omega) | (simp only [placeOf, if_neg hm]; done) | (simp only [placeOf, if_pos hm]; omega)), rfl⟩, hs12⟩
 have h10p : May gw gi gb := of_decide_eq_true (bnot_false h10)
 have hm : May gw gi gb := h10p
 have hm_ : (1 ≤ gw ∧ gw ≤ 4) ∧ (2 ≤ gi ∧ gi ≤ 64) ∧ (2 ≤ gb ∧ gb ≤ 512) := hm
 refine W.skip ?_
 refine hK5 _ _ ?_
 refine W.sr fun K13 hK13 => ?_
 refine zG ⟨b4, 0, none⟩ [(zi gw), (zi gi), (zi gb)] (cells_sub (hs9.heapAt 0 rfl) rfl) ?_
 refine zC00 hs9 (maps_spec (hm := hm) (gw := gw) (gi := gi) (gb := gb) B _) fun w14 hs16 => ?_
 refine zE 1 (hK13 _ _ ?_)
 refine W.ret ?_
 have hs17 := St.tk0 hs16
 refine ret_of (zi (264 + 208 * gw)) (by kernel_rfl) ⟨_, ⟨congrArg (Value.int .i64) (by first | contradiction | (simp only [placeOf, if_pos hm]; split <;> omega) | (simp only [placeOf, if_neg hm]; done) | (simp only [placeOf, if_pos hm]; omega)), rfl⟩, hs17⟩
theorem rbmapat_spec {gw gi gb : Int} (B : Nat) (w : World) : Spec Try.prog 33 #[(.agg #[(zi gw), (zi gi), (zi gb)])] B w [] (fun v H' => v = .int .i64 (placeOf 7 gw gi gb 0) ∧ H' = []) := by
 refine spec_Q Try.func33 rfl fun hs => ?_
 refine W.sr fun K1 hK1 => ?_
 refine zN [(zi gw), (zi gi), (zi gb)] 46 hs fun b4 w2 hs3 => ?_
 refine zE 1 (hK1 _ _ ?_)
 refine W.seq fun K5 hK5 => ?_
 refine W.sr fun K6 hK6 => ?_
 refine zG ⟨b4, 0, none⟩ [(zi gw), (zi gi), (zi gb)] (cells_sub (hs3.heapAt 0 rfl) rfl) ?_
 refine zC00 hs3 (rmay_spec (gw := gw) (gi := gi) (gb := gb) B _) fun w7 hs9 => ?_
 refine zE 1 (hK6 _ _ ?_)
 refine W.cond (!(decide (May gw gi gb))) (by kernel_rfl) (fun h10 => ?_) (fun h10 => ?_)
 ·
  have h10p : ¬ (May gw gi gb) := of_decide_eq_false (bnot_true h10)
  have hm : ¬ May gw gi gb := h10p
  refine W.sr fun K11 hK11 => ?_
  refine zE 1 (hK11 _ _ ?_)
  refine W.ret (ret_seq ?_)
  have hs12 := St.tk0 hs9
  refine ret_of (zi (-1)) (by kernel_rfl) ⟨_, ⟨congrArg (Value.int .i64) (by first | contradiction | (simp only [placeOf, if_pos hm]; split <;> omega) | (simp only [placeOf, if_neg hm]; done) | (simp only [placeOf, if_pos hm]; omega)), rfl⟩, hs12⟩
 have h10p : May gw gi gb := of_decide_eq_true (bnot_false h10)
 have hm : May gw gi gb := h10p
 have hm_ : (1 ≤ gw ∧ gw ≤ 4) ∧ (2 ≤ gi ∧ gi ≤ 64) ∧ (2 ≤ gb ∧ gb ≤ 512) := hm
 refine W.skip ?_
 refine hK5 _ _ ?_
 refine W.sr fun K13 hK13 => ?_
 refine zG ⟨b4, 0, none⟩ [(zi gw), (zi gi), (zi gb)] (cells_sub (hs9.heapAt 0 rfl) rfl) ?_
 refine zC00 hs9 (maps_spec (hm := hm) (gw := gw) (gi := gi) (gb := gb) B _) fun w14 hs16 => ?_
 refine zI ((264 + 208 * gw) + 8) (wrap_i64 (by omega) (by omega)) ?_
 refine zE 1 (hK13 _ _ ?_)
 refine W.ret ?_
 have hs17 := St.tk0 hs16
 refine ret_of (zi ((264 + 208 * gw) + 8)) (by kernel_rfl) ⟨_, ⟨congrArg (Value.int .i64) (by first | contradiction | (simp only [placeOf, if_pos hm]; split <;> omega) | (simp only [placeOf, if_neg hm]; done) | (simp only [placeOf, if_pos hm]; omega)), rfl⟩, hs17⟩
theorem rinodeat_spec {gw gi gb n_ : Int} (B : Nat) (w : World) : Spec Try.prog 34 #[(.agg #[(zi gw), (zi gi), (zi gb)]), (zi n_)] B w [] (fun v H' => v = .int .i64 (placeOf 8 gw gi gb n_) ∧ H' = []) := by
 refine spec_Q Try.func34 rfl fun hs => ?_
 refine W.sr fun K1 hK1 => ?_
 refine zN [(zi gw), (zi gi), (zi gb)] 46 hs fun b4 w2 hs3 => ?_
 refine zE 1 (hK1 _ _ ?_)
 refine W.seq fun K5 hK5 => ?_
 refine W.sr fun K6 hK6 => ?_
 refine zG ⟨b4, 0, none⟩ [(zi gw), (zi gi), (zi gb)] (cells_sub (hs3.heapAt 0 rfl) rfl) ?_
 refine zC00 hs3 (rmay_spec (gw := gw) (gi := gi) (gb := gb) B _) fun w7 hs9 => ?_
 refine zR 2 ?_
 rcases Bool.eq_false_or_eq_true (!(decide (May gw gi gb))) with h10 | h10
 ·
  have h10p : ¬ (May gw gi gb) := of_decide_eq_false (bnot_true h10)
  refine zS 8 h10 ?_
  refine zS 7 h10 ?_
  refine zE 9 (hK6 _ _ ?_)
  refine W.cond_true true (by kernel_rfl) rfl ?_
  refine W.sr fun K11 hK11 => ?_
  refine zE 1 (hK11 _ _ ?_)
  refine W.ret (ret_seq ?_)
  have hs12 := St.tk0 hs9
  refine ret_of (zi (-1)) (by kernel_rfl) ⟨_, ⟨congrArg (Value.int .i64) (by by_cases hm : May gw gi gb <;> first | contradiction | (have hm_ : (1 ≤ gw ∧ gw ≤ 4) ∧ (2 ≤ gi ∧ gi ≤ 64) ∧ (2 ≤ gb ∧ gb ≤ 512) := hm; simp only [placeOf, if_pos hm]; split <;> omega) | (simp only [placeOf, if_neg hm]; done)), rfl⟩, hs12⟩
 have h10p : May gw gi gb := of_decide_eq_true (bnot_false h10)
 have hm : May gw gi gb := h10p
 have hm_ : (1 ≤ gw ∧ gw ≤ 4) ∧ (2 ≤ gi ∧ gi ≤ 64) ∧ (2 ≤ gb ∧ gb ≤ 512) := hm
 refine zS 8 h10 ?_
 refine zS 7 h10 ?_
 refine zR 4 ?_
 rcases Bool.eq_false_or_eq_true (decide (n_ < 0)) with h13 | h13
 ·
  have h13p := of_decide_eq_true h13
  refine zS 12 h13 ?_
  refine zS 10 h13 ?_
  refine zS 11 h13 ?_
  refine zE 5 (hK6 _ _ ?_)
  refine W.cond_true true (by kernel_rfl) rfl ?_
  refine W.sr fun K14 hK14 => ?_
  refine zE 1 (hK14 _ _ ?_)
  refine W.ret (ret_seq ?_)
  have hs15 := St.tk0 hs9
  refine ret_of (zi (-1)) (by kernel_rfl) ⟨_, ⟨congrArg (Value.int .i64) (by by_cases hm : May gw gi gb <;> first | contradiction | (have hm_ : (1 ≤ gw ∧ gw ≤ 4) ∧ (2 ≤ gi ∧ gi ≤ 64) ∧ (2 ≤ gb ∧ gb ≤ 512) := hm; simp only [placeOf, if_pos hm]; split <;> omega) | (simp only [placeOf, if_neg hm]; done)), rfl⟩, hs15⟩
 have h13p := of_decide_eq_false h13
 refine zS 12 h13 ?_
 refine zS 10 h13 ?_
 refine zS 11 h13 ?_
 refine zR 2 ?_
 refine zL ⟨b4, 1, none⟩ (zi gi) (hs9.cellAt 0 rfl rfl) ?_
 refine zE 2 (hK6 _ _ ?_)
 refine W.cond (decide (n_ ≥ gi)) (by kernel_rfl) (fun h16 => ?_) (fun h16 => ?_)
 ·
  have h16p := of_decide_eq_true h16
  refine W.sr fun K17 hK17 => ?_
  refine zE 1 (hK17 _ _ ?_)
  refine W.ret (ret_seq ?_)
  have hs18 := St.tk0 hs9
  refine ret_of (zi (-1)) (by kernel_rfl) ⟨_, ⟨congrArg (Value.int .i64) (by by_cases hm : May gw gi gb <;> first | contradiction | (have hm_ : (1 ≤ gw ∧ gw ≤ 4) ∧ (2 ≤ gi ∧ gi ≤ 64) ∧ (2 ≤ gb ∧ gb ≤ 512) := hm; simp only [placeOf, if_pos hm]; split <;> omega) | (simp only [placeOf, if_neg hm]; done)), rfl⟩, hs18⟩
 have h16p := of_decide_eq_false h16
 refine W.skip ?_
 refine hK5 _ _ ?_
 refine W.sr fun K19 hK19 => ?_
 refine zG ⟨b4, 0, none⟩ [(zi gw), (zi gi), (zi gb)] (cells_sub (hs9.heapAt 0 rfl) rfl) ?_
 refine zC00 hs9 (maps_spec (hm := hm) (gw := gw) (gi := gi) (gb := gb) B _) fun w20 hs22 => ?_
 refine zI ((264 + 208 * gw) + 16) (wrap_i64 (by omega) (by omega)) ?_
 refine zR 1 ?_
 refine zI (16 * n_) (wrap_i64 (by omega) (by omega)) ?_
 refine zI (((264 + 208 * gw) + 16) + (16 * n_)) (wrap_i64 (by omega) (by omega)) ?_
 refine zE 1 (hK19 _ _ ?_)
 refine W.ret ?_
 have hs23 := St.tk0 hs22
 refine ret_of (zi (((264 + 208 * gw) + 16) + (16 * n_))) (by kernel_rfl) ⟨_, ⟨congrArg (Value.int .i64) (by by_cases hm : May gw gi gb <;> first | contradiction | (have hm_ : (1 ≤ gw ∧ gw ≤ 4) ∧ (2 ≤ gi ∧ gi ≤ 64) ∧ (2 ≤ gb ∧ gb ≤ 512) := hm; simp only [placeOf, if_pos hm]; split <;> omega) | (simp only [placeOf, if_neg hm]; done)), rfl⟩, hs23⟩
end Go.Proofs.Ytmmclabkkigiaaa

set_option maxRecDepth 20000
namespace Go.Proofs.Ytmmclabkkigiaaa
open Go Go.RowKit
theorem format_spec {gw gi gb : Int} (B : Nat) (w : World) : Spec Try.prog 18 #[(.agg #[(zi gw), (zi gi), (zi gb)])] B w [] (fun v H' => ∃ a' c', v = .slice a' (fmtW gw gi gb).length c' ∧ H' = [kU64.row a' c' (fmtW gw gi gb)]) := by
 refine spec_Q Try.func18 rfl fun hs => ?_
 refine W.sr fun K1 hK1 => ?_
 refine zN [(zi gw), (zi gi), (zi gb)] 46 hs fun b4 w2 hs3 => ?_
 refine zE 1 (hK1 _ _ ?_)
 refine W.seq fun K5 hK5 => ?_
 refine W.sr fun K6 hK6 => ?_
 refine zG ⟨b4, 0, none⟩ [(zi gw), (zi gi), (zi gb)] (cells_sub (hs3.heapAt 0 rfl) rfl) ?_
 refine zC00 hs3 (rmay_spec (gw := gw) (gi := gi) (gb := gb) B _) fun w7 hs9 => ?_
 refine zE 1 (hK6 _ _ ?_)
 refine W.cond (!(decide (May gw gi gb))) (by kernel_rfl) (fun h10 => ?_) (fun h10 => ?_)
 ·
  have h10p : ¬ (May gw gi gb) := of_decide_eq_false (bnot_true h10)
  refine W.sr fun K11 hK11 => ?_
  refine zE 1 (hK11 _ _ ?_)
  refine W.ret (ret_seq ?_)
  have hs12 := St.tk0 hs9
  have hk := St.knil kU64 hs12
  have e_ : fmtW gw gi gb = [] := if_neg (by assumption)
  refine ret_of (.slice none 0 0) (by kernel_rfl) ⟨_, ⟨none, 0, by rw [e_]; rfl, by rw [e_]⟩, hk⟩
 have h10p : May gw gi gb := of_decide_eq_true (bnot_false h10)
 have hm : May gw gi gb := h10p
 have hm_ : (1 ≤ gw ∧ gw ≤ 4) ∧ (2 ≤ gi ∧ gi ≤ 64) ∧ (2 ≤ gb ∧ gb ≤ 512) := hm
 have hwd := words_may hm
 have hp6 := place6 hm
 have hp7 := place7 hm
 have hp8 := place8_in (n := 1) hm (by omega)
 refine W.skip ?_
 refine hK5 _ _ ?_
 refine W.sr fun K13 hK13 => ?_
 refine zG ⟨b4, 0, none⟩ [(zi gw), (zi gi), (zi gb)] (cells_sub (hs9.heapAt 0 rfl) rfl) ?_
 refine zC00 hs9 (rwords_spec (gw := gw) (gi := gi) (gb := gb) B _) fun w14 hs16 => ?_
 refine ops_makeSlice kU64 0 (z := (wordsOf gw gi gb)) (bytes := 8) ((wordsOf gw gi gb).toNat) (by omega) hs16 (by kernel_rfl) (by omega) (by unfold maxLen; omega) (fun b17 w18 hs19 => ?_)
 refine zE 1 (hK13 _ _ ?_)
 refine W.sr fun K20 hK20 => ?_
 refine zR 1 ?_
 have hk21 : 0 < (wordsOf gw gi gb).toNat := by omega
 have hk22 : 0 < (List.replicate ((wordsOf gw gi gb).toNat) (0 : Int)).length := by simp only [List.length_set, List.length_replicate]; exact hk21
 refine ops_R (runs_index (a := (some ⟨b17, 0, none⟩)) (n := (wordsOf gw gi gb).toNat) (z := 0) (size := 1) 0 rfl hk21 (kU64.addr (St.kcells kU64 hs19 0 rfl) hk22) (by kernel_rfl)) ?_
 refine ops_storeK kU64 (j := 0) (vs := [(zu 32762617960297063)]) 0 32762617960297063 hs19 hk22 (Nat.le_of_ble_eq_true rfl) (by simp) rfl rfl (by kernel_rfl) (fun w23 hs24 => ?_)
 refine zD (hK20 _ _ ?_)
 refine W.sr fun K26 hK26 => ?_
 refine zR 2 ?_
 refine zL ⟨b4, 0, none⟩ (zi gw) (hs24.cellAt 1 rfl rfl) ?_
 refine zI gw (wrap_u64 (by omega) (by omega)) ?_
 have hk27 : 1 < (wordsOf gw gi gb).toNat := by omega
 have hk28 : 1 < ((List.replicate ((wordsOf gw gi gb).toNat) (0 : Int)).set 0 32762617960297063).length := by simp only [List.length_set, List.length_replicate]; exact hk27
 refine ops_R (runs_index (a := (some ⟨b17, 0, none⟩)) (n := (wordsOf gw gi gb).toNat) (z := 1) (size := 1) 1 rfl hk27 (kU64.addr (St.kcells kU64 hs24 0 rfl) hk28) (by kernel_rfl)) ?_
 refine ops_storeK kU64 (j := 0) (vs := [(zu gw)]) 0 gw hs24 hk28 (Nat.le_of_ble_eq_true rfl) (by simp) rfl rfl (by kernel_rfl) (fun w29 hs30 => ?_)
 refine zD (hK26 _ _ ?_)
 refine W.sr fun K32 hK32 => ?_
 refine zR 2 ?_
 refine zL ⟨b4, 1, none⟩ (zi gi) (hs30.cellAt 1 rfl rfl) ?_
 refine zI gi (wrap_u64 (by omega) (by omega)) ?_
 have hk33 : 2 < (wordsOf gw gi gb).toNat := by omega
 have hk34 : 2 < (((List.replicate ((wordsOf gw gi gb).toNat) (0 : Int)).set 0 32762617960297063).set 1 gw).length := by simp only [List.length_set, List.length_replicate]; exact hk33
 refine ops_R (runs_index (a := (some ⟨b17, 0, none⟩)) (n := (wordsOf gw gi gb).toNat) (z := 2) (size := 1) 2 rfl hk33 (kU64.addr (St.kcells kU64 hs30 0 rfl) hk34) (by kernel_rfl)) ?_
 refine ops_storeK kU64 (j := 0) (vs := [(zu gi)]) 0 gi hs30 hk34 (Nat.le_of_ble_eq_true rfl) (by simp) rfl rfl (by kernel_rfl) (fun w35 hs36 => ?_)
 refine zD (hK32 _ _ ?_)
 refine W.sr fun K38 hK38 => ?_
 refine zR 2 ?_
 refine zL ⟨b4, 2, none⟩ (zi gb) (hs36.cellAt 1 rfl rfl) ?_
 refine zI gb (wrap_u64 (by omega) (by omega)) ?_
 have hk39 : 3 < (wordsOf gw gi gb).toNat := by omega
 have hk40 : 3 < ((((List.replicate ((wordsOf gw gi gb).toNat) (0 : Int)).set 0 32762617960297063).set 1 gw).set 2 gi).length := by simp only [List.length_set, List.length_replicate]; exact hk39
 refine ops_R (runs_index (a := (some ⟨b17, 0, none⟩)) (n := (wordsOf gw gi gb).toNat) (z := 3) (size := 1) 3 rfl hk39 (kU64.addr (St.kcells kU64 hs36 0 rfl) hk40) (by kernel_rfl)) ?_
 refine ops_storeK kU64 (j := 0) (vs := [(zu gb)]) 0 gb hs36 hk40 (Nat.le_of_ble_eq_true rfl) (by simp) rfl rfl (by kernel_rfl) (fun w41 hs42 => ?_)
 refine zD (hK38 _ _ ?_)
 refine W.sr fun K44 hK44 => ?_
 refine zR 1 ?_
 refine zG ⟨b4, 0, none⟩ [(zi gw), (zi gi), (zi gb)] (cells_sub (hs42.heapAt 1 rfl) rfl) ?_
 refine zC00 hs42 (rmapat_spec (gw := gw) (gi := gi) (gb := gb) B _) fun w45 hs47 => ?_
 have hk48 : (placeOf 6 gw gi gb 0).toNat < (wordsOf gw gi gb).toNat := by omega
 have hk49 : (placeOf 6 gw gi gb 0).toNat < (((((List.replicate ((wordsOf gw gi gb).toNat) (0 : Int)).set 0 32762617960297063).set 1 gw).set 2 gi).set 3 gb).length := by simp only [List.length_set, List.length_replicate]; exact hk48
 refine ops_R (runs_index (a := (some ⟨b17, 0, none⟩)) (n := (wordsOf gw gi gb).toNat) (z := (placeOf 6 gw gi gb 0)) (size := 1) ((placeOf 6 gw gi gb 0).toNat) (by omega) hk48 (kU64.addr (St.kcells kU64 hs47 0 rfl) hk49) (by kernel_rfl)) ?_
 refine ops_storeK kU64 (j := 0) (vs := [(zu 3)]) 0 3 hs47 hk49 (Nat.le_of_ble_eq_true rfl) (by simp) rfl rfl (by kernel_rfl) (fun w50 hs51 => ?_)
 refine zD (hK44 _ _ ?_)
 refine W.sr fun K53 hK53 => ?_
 refine zR 1 ?_
 refine zG ⟨b4, 0, none⟩ [(zi gw), (zi gi), (zi gb)] (cells_sub (hs51.heapAt 1 rfl) rfl) ?_
 refine zC00 hs51 (rbmapat_spec (gw := gw) (gi := gi) (gb := gb) B _) fun w54 hs56 => ?_
 have hk57 : (placeOf 7 gw gi gb 0).toNat < (wordsOf gw gi gb).toNat := by omega
 have hk58 : (placeOf 7 gw gi gb 0).toNat < ((((((List.replicate ((wordsOf gw gi gb).toNat) (0 : Int)).set 0 32762617960297063).set 1 gw).set 2 gi).set 3 gb).set ((placeOf 6 gw gi gb 0).toNat) 3).length := by simp only [List.length_set, List.length_replicate]; exact hk57
 refine ops_R (runs_index (a := (some ⟨b17, 0, none⟩)) (n := (wordsOf gw gi gb).toNat) (z := (placeOf 7 gw gi gb 0)) (size := 1) ((placeOf 7 gw gi gb 0).toNat) (by omega) hk57 (kU64.addr (St.kcells kU64 hs56 0 rfl) hk58) (by kernel_rfl)) ?_
 refine ops_storeK kU64 (j := 0) (vs := [(zu 1)]) 0 1 hs56 hk58 (Nat.le_of_ble_eq_true rfl) (by simp) rfl rfl (by kernel_rfl) (fun w59 hs60 => ?_)
 refine zD (hK53 _ _ ?_)
 refine W.sr fun K62 hK62 => ?_
 refine zR 1 ?_
 refine zG ⟨b4, 0, none⟩ [(zi gw), (zi gi), (zi gb)] (cells_sub (hs60.heapAt 1 rfl) rfl) ?_
 refine zC00 hs60 (rinodeat_spec (gw := gw) (gi := gi) (gb := gb) (n_ := 1) B _) fun w63 hs65 => ?_
 have hk66 : (placeOf 8 gw gi gb 1).toNat < (wordsOf gw gi gb).toNat := by omega
 have hk67 : (placeOf 8 gw gi gb 1).toNat < (((((((List.replicate ((wordsOf gw gi gb).toNat) (0 : Int)).set 0 32762617960297063).set 1 gw).set 2 gi).set 3 gb).set ((placeOf 6 gw gi gb 0).toNat) 3).set ((placeOf 7 gw gi gb 0).toNat) 1).length := by simp only [List.length_set, List.length_replicate]; exact hk66
 refine ops_R (runs_index (a := (some ⟨b17, 0, none⟩)) (n := (wordsOf gw gi gb).toNat) (z := (placeOf 8 gw gi gb 1)) (size := 1) ((placeOf 8 gw gi gb 1).toNat) (by omega) hk66 (kU64.addr (St.kcells kU64 hs65 0 rfl) hk67) (by kernel_rfl)) ?_
 refine ops_storeK kU64 (j := 0) (vs := [(zu 2)]) 0 2 hs65 hk67 (Nat.le_of_ble_eq_true rfl) (by simp) rfl rfl (by kernel_rfl) (fun w68 hs69 => ?_)
 refine zD (hK62 _ _ ?_)
 refine W.sr fun K71 hK71 => ?_
 refine zR 1 ?_
 refine zG ⟨b4, 0, none⟩ [(zi gw), (zi gi), (zi gb)] (cells_sub (hs69.heapAt 1 rfl) rfl) ?_
 refine zC00 hs69 (rinodeat_spec (gw := gw) (gi := gi) (gb := gb) (n_ := 1) B _) fun w72 hs74 => ?_
 refine zI ((placeOf 8 gw gi gb 1) + 1) (wrap_i64 (by omega) (by omega)) ?_
 have hk75 : ((placeOf 8 gw gi gb 1) + 1).toNat < (wordsOf gw gi gb).toNat := by omega
 have hk76 : ((placeOf 8 gw gi gb 1) + 1).toNat < ((((((((List.replicate ((wordsOf gw gi gb).toNat) (0 : Int)).set 0 32762617960297063).set 1 gw).set 2 gi).set 3 gb).set ((placeOf 6 gw gi gb 0).toNat) 3).set ((placeOf 7 gw gi gb 0).toNat) 1).set ((placeOf 8 gw gi gb 1).toNat) 2).length := by simp only [List.length_set, List.length_replicate]; exact hk75
 refine ops_R (runs_index (a := (some ⟨b17, 0, none⟩)) (n := (wordsOf gw gi gb).toNat) (z := ((placeOf 8 gw gi gb 1) + 1)) (size := 1) (((placeOf 8 gw gi gb 1) + 1).toNat) (by omega) hk75 (kU64.addr (St.kcells kU64 hs74 0 rfl) hk76) (by kernel_rfl)) ?_
 refine ops_storeK kU64 (j := 0) (vs := [(zu 1)]) 0 1 hs74 hk76 (Nat.le_of_ble_eq_true rfl) (by simp) rfl rfl (by kernel_rfl) (fun w77 hs78 => ?_)
 refine zD (hK71 _ _ ?_)
 refine W.sr fun K80 hK80 => ?_
 refine zE 2 (hK80 _ _ ?_)
 refine W.ret ?_
 have hs81 := St.tk1 hs78
 have e_ : (((((((((List.replicate ((wordsOf gw gi gb).toNat) (0 : Int)).set 0 32762617960297063).set 1 gw).set 2 gi).set 3 gb).set ((placeOf 6 gw gi gb 0).toNat) 3).set ((placeOf 7 gw gi gb 0).toNat) 1).set ((placeOf 8 gw gi gb 1).toNat) 2).set (((placeOf 8 gw gi gb 1) + 1).toNat) 1) = fmtW gw gi gb := (if_pos hm).symm
 have hs_ := hs81
 rw [e_] at hs_
 refine ret_of (.slice (some ⟨b17, 0, none⟩) ((wordsOf gw gi gb).toNat) ((wordsOf gw gi gb).toNat)) (by kernel_rfl) ⟨_, ⟨(some ⟨b17, 0, none⟩), (wordsOf gw gi gb).toNat, by rw [fmtW_len], rfl⟩, hs_⟩
theorem small_spec {x_ y_ : Int} (B : Nat) (w : World) (hx : 0 ≤ x_ ∧ x_ ≤ 255) (hy : 0 ≤ y_ ∧ y_ ≤ 255) : Spec Try.prog 16 #[(.int .u8 x_), (.int .u8 y_)] B w [] (fun v H' => v = .agg #[.int .i64 1, .int .i64 (2 + x_ % 20), .int .i64 (2 + y_ % 60)] ∧ H' = []) := by
 refine spec_Q Try.func16 rfl fun hs => ?_
 refine W.sr fun K1 hK1 => ?_
 refine zN [(zi 0), (zi 0), (zi 0)] 33 hs fun b4 w2 hs3 => ?_
 refine zD (hK1 _ _ ?_)
 refine W.sr fun K5 hK5 => ?_
 refine zR 1 ?_
 refine zI x_ (wrap_i64 (by omega) (by omega)) ?_
 obtain ⟨r6, hr7, hl8, he9⟩ := rem_nat (x := x_) (y := 20) (by omega) (by omega)
 refine ops_R (v := .int .i64 (r6 : Int)) (runs_rem (k := .i64) (a := x_) (b := 20) (by kernel_rfl) (by omega) hr7) ?_
 refine zI (2 + (r6 : Int)) (wrap_i64 (by omega) (by omega)) ?_
 refine zR 1 ?_
 refine zI y_ (wrap_i64 (by omega) (by omega)) ?_
 obtain ⟨r10, hr11, hl12, he13⟩ := rem_nat (x := y_) (y := 60) (by omega) (by omega)
 refine ops_R (v := .int .i64 (r10 : Int)) (runs_rem (k := .i64) (a := y_) (b := 60) (by kernel_rfl) (by omega) hr11) ?_
 refine zI (2 + (r10 : Int)) (wrap_i64 (by omega) (by omega)) ?_
 refine zR 1 ?_
 refine zT 0 [(zi 1), (zi (2 + (r6 : Int))), (zi (2 + (r10 : Int)))] [(zi 1), (zi (2 + (r6 : Int))), (zi (2 + (r10 : Int)))] hs3 fun w14 hs16 => ?_
 refine zD (hK5 _ _ ?_)
 refine W.ret ?_
 have hs17 := St.tk0 hs16
 refine ret_of (.agg #[(zi 1), (zi (2 + (r6 : Int))), (zi (2 + (r10 : Int)))]) (results_cell (ad := ⟨b4, 0, none⟩) (cs := [(zi 1), (zi (2 + (r6 : Int))), (zi (2 + (r10 : Int)))]) rfl (by kernel_rfl) (by kernel_rfl) (cells_sub (hs16.heapAt 0 rfl) rfl)) ⟨_, ⟨by simp only [*], rfl⟩, hs17⟩
end Go.Proofs.Ytmmclabkkigiaaa

set_option maxRecDepth 20000
set_option maxHeartbeats 1000000
namespace Go.Proofs.Ytmmclabkkigiaaa
open Go Go.RowKit
theorem max5_spec {ma : Option Addr} {mc : Nat} {a_ b_ c_ d_ e_ : Int} (B : Nat) (w : World) (hm : CellsAt ma (kU64.cells [a_, b_, c_, d_, e_]) w) : Spec Try.prog 64 #[(.slice ma 5 mc)] B w [] (fun v H' => v = .int .u64 (mx (mx (mx (mx a_ b_) c_) d_) e_) ∧ H' = []) := by
 refine spec_Q Try.func64 rfl fun hs => ?_
 refine W.sr fun K1 hK1 => ?_
 refine zE 1 (hK1 _ _ ?_)
 refine W.seq fun K2 hK2 => ?_
 refine W.sr fun K3 hK3 => ?_
 refine zE 3 (hK3 _ _ ?_)
 refine W.cond_false false (by kernel_rfl) rfl ?_
 refine W.skip ?_
 refine hK2 _ _ ?_
 refine W.sr fun K4 hK4 => ?_
 refine zR 1 ?_
 have hk5 : 0 < 5 := by omega
 refine ops_R (runs_index (a := ma) (n := 5) (z := 0) (size := 1) 0 rfl hk5 (kU64.addr (hs.oldCells hm) hk5) (by kernel_rfl)) ?_
 refine zL ((adr ma (0 * 1)).add 0) (zu (([a_, b_, c_, d_, e_]).getD 0 0)) (kU64.at (hs.oldCells hm) hk5 0 0 rfl) ?_
 refine zE 1 (hK4 _ _ ?_)
 refine W.seq fun K6 hK6 => ?_
 refine W.sr fun K7 hK7 => ?_
 refine zE 1 (hK7 _ _ ?_)
 refine W.block ?_
 refine W.loop_start ?_
 refine loopAt_round ?_
 refine W.seq fun K8 hK8 => ?_
 refine W.sr fun K9 hK9 => ?_
 refine zE 4 (hK9 _ _ ?_)
 refine W.cond_true true (by kernel_rfl) rfl ?_
 refine W.skip ?_
 refine hK8 _ _ ?_
 refine W.seq fun K10 hK10 => ?_
 refine W.block ?_
 refine W.region ?_
 refine zR 3 ?_
 have hk11 : 1 < 5 := by omega
 refine ops_R (runs_index (a := ma) (n := 5) (z := 1) (size := 1) 1 rfl hk11 (kU64.addr (hs.oldCells hm) hk11) (by kernel_rfl)) ?_
 refine zL ((adr ma (1 * 1)).add 0) (zu (([a_, b_, c_, d_, e_]).getD 1 0)) (kU64.at (hs.oldCells hm) hk11 0 0 rfl) ?_
 refine zE 2 ?_
 refine normal_block ?_
 refine hK10 _ _ ?_
 refine W.region ?_
 refine zE 3 ?_
 refine loopAt_next ?_
 refine loopAt_round ?_
 refine W.seq fun K12 hK12 => ?_
 refine W.sr fun K13 hK13 => ?_
 refine zE 4 (hK13 _ _ ?_)
 refine W.cond_true true (by kernel_rfl) rfl ?_
 refine W.skip ?_
 refine hK12 _ _ ?_
 refine W.seq fun K14 hK14 => ?_
 refine W.block ?_
 refine W.region ?_
 refine zR 3 ?_
 have hk15 : 2 < 5 := by omega
 refine ops_R (runs_index (a := ma) (n := 5) (z := 2) (size := 1) 2 rfl hk15 (kU64.addr (hs.oldCells hm) hk15) (by kernel_rfl)) ?_
 refine zL ((adr ma (2 * 1)).add 0) (zu (([a_, b_, c_, d_, e_]).getD 2 0)) (kU64.at (hs.oldCells hm) hk15 0 0 rfl) ?_
 refine zE 2 ?_
 refine normal_block ?_
 refine hK14 _ _ ?_
 refine W.region ?_
 refine zE 3 ?_
 refine loopAt_next ?_
 refine loopAt_round ?_
 refine W.seq fun K16 hK16 => ?_
 refine W.sr fun K17 hK17 => ?_
 refine zE 4 (hK17 _ _ ?_)
 refine W.cond_true true (by kernel_rfl) rfl ?_
 refine W.skip ?_
 refine hK16 _ _ ?_
 refine W.seq fun K18 hK18 => ?_
 refine W.block ?_
 refine W.region ?_
 refine zR 3 ?_
 have hk19 : 3 < 5 := by omega
 refine ops_R (runs_index (a := ma) (n := 5) (z := 3) (size := 1) 3 rfl hk19 (kU64.addr (hs.oldCells hm) hk19) (by kernel_rfl)) ?_
 refine zL ((adr ma (3 * 1)).add 0) (zu (([a_, b_, c_, d_, e_]).getD 3 0)) (kU64.at (hs.oldCells hm) hk19 0 0 rfl) ?_
 refine zE 2 ?_
 refine normal_block ?_
 refine hK18 _ _ ?_
 refine W.region ?_
 refine zE 3 ?_
 refine loopAt_next ?_
 refine loopAt_round ?_
 refine W.seq fun K20 hK20 => ?_
 refine W.sr fun K21 hK21 => ?_
 refine zE 4 (hK21 _ _ ?_)
 refine W.cond_true true (by kernel_rfl) rfl ?_
 refine W.skip ?_
 refine hK20 _ _ ?_
 refine W.seq fun K22 hK22 => ?_
 refine W.block ?_
 refine W.region ?_
 refine zR 3 ?_
 have hk23 : 4 < 5 := by omega
 refine ops_R (runs_index (a := ma) (n := 5) (z := 4) (size := 1) 4 rfl hk23 (kU64.addr (hs.oldCells hm) hk23) (by kernel_rfl)) ?_
 refine zL ((adr ma (4 * 1)).add 0) (zu (([a_, b_, c_, d_, e_]).getD 4 0)) (kU64.at (hs.oldCells hm) hk23 0 0 rfl) ?_
 refine zE 2 ?_
 refine normal_block ?_
 refine hK22 _ _ ?_
 refine W.region ?_
 refine zE 3 ?_
 refine loopAt_next ?_
 refine loopAt_round ?_
 refine W.seq fun K24 hK24 => ?_
 refine W.sr fun K25 hK25 => ?_
 refine zE 4 (hK25 _ _ ?_)
 refine W.cond_false false (by kernel_rfl) rfl ?_
 refine W.exit (exit_seq (exit_seq (exit_here ?_)))
 refine hK6 _ _ ?_
 refine W.sr fun K26 hK26 => ?_
 refine zE 2 (hK26 _ _ ?_)
 refine W.ret ?_
 refine ret_of (zu (mx (mx (mx (mx (([a_, b_, c_, d_, e_]).getD 0 0) (([a_, b_, c_, d_, e_]).getD 1 0)) (([a_, b_, c_, d_, e_]).getD 2 0)) (([a_, b_, c_, d_, e_]).getD 3 0)) (([a_, b_, c_, d_, e_]).getD 4 0))) (by kernel_rfl) ⟨_, ⟨rfl, rfl⟩, hs⟩
theorem right_spec {gw gi gb : Int} {x_ : Nd} (B : Nat) (w : World) : Spec Try.prog 49 #[(.agg #[(zi gw), (zi gi), (zi gb)]), (.agg #[(zu x_.k), (zu x_.l), (zu x_.o), (zu x_.s), (zu x_.a), (zu x_.b), (zu x_.c), (zu x_.d), (zu x_.e), (zu x_.m)])] B w [] (fun v H' => v = .bool (decide (RightP gw gi gb x_)) ∧ H' = []) := by
 refine spec_Q Try.func49 rfl fun hs => ?_
 refine W.sr fun K1 hK1 => ?_
 refine zN [(zi gw), (zi gi), (zi gb)] 33 hs fun b4 w2 hs3 => ?_
 refine zN [(zu x_.k), (zu x_.l), (zu x_.o), (zu x_.s), (zu x_.a), (zu x_.b), (zu x_.c), (zu x_.d), (zu x_.e), (zu x_.m)] 61 hs3 fun b7 w5 hs6 => ?_
 refine zE 1 (hK1 _ _ ?_)
 refine W.seq fun K8 hK8 => ?_
 refine W.sr fun K9 hK9 => ?_
 refine zG ⟨b4, 0, none⟩ [(zi gw), (zi gi), (zi gb)] (cells_sub (hs6.heapAt 1 rfl) rfl) ?_
 refine zC00 hs6 (may_spec (gw := gw) (gi := gi) (gb := gb) B _) fun w10 hs12 => ?_
 refine zR 2 ?_
 rcases Bool.eq_false_or_eq_true (!(decide (May gw gi gb))) with h13 | h13
 ·
  have h13p : ¬ (May gw gi gb) := of_decide_eq_false (bnot_true h13)
  refine zS 9 h13 ?_
  refine zS 8 h13 ?_
  refine zE 4 (hK9 _ _ ?_)
  refine W.cond_true true (by kernel_rfl) rfl ?_
  refine W.sr fun K14 hK14 => ?_
  refine zE 1 (hK14 _ _ ?_)
  refine W.ret (ret_seq ?_)
  have hs15 := St.tk0 hs12
  refine ret_of (.bool false) (by kernel_rfl) ⟨_, ⟨congrArg Value.bool (decide_eq_false (by first | (intro q; exact absurd q.1 (by assumption)) | ((try simp only [mx_lt, le_mx, ge_iff_le, Int.not_le] at *); simp only [RightP]; omega))).symm, rfl⟩, hs15⟩
 have h13p : May gw gi gb := of_decide_eq_true (bnot_false h13)
 have hm : May gw gi gb := h13p
 have hm_ : (1 ≤ gw ∧ gw ≤ 4) ∧ (2 ≤ gi ∧ gi ≤ 64) ∧ (2 ≤ gb ∧ gb ≤ 512) := hm
 refine zS 9 h13 ?_
 refine zS 8 h13 ?_
 refine zG ⟨b7, 0, none⟩ [(zu x_.k), (zu x_.l), (zu x_.o), (zu x_.s), (zu x_.a), (zu x_.b), (zu x_.c), (zu x_.d), (zu x_.e), (zu x_.m)] (cells_sub (hs12.heapAt 0 rfl) rfl) ?_
 refine zR 1 ?_
 refine ops_R (v := (.bool ((decide (x_.k = 0)) && ((decide (x_.l = 0)) && ((decide (x_.o = 0)) && ((decide (x_.s = 0)) && (((decide (x_.a = 0)) && ((decide (x_.b = 0)) && ((decide (x_.c = 0)) && ((decide (x_.d = 0)) && true)))) && ((decide (x_.e = 0)) && ((decide (x_.m = 0)) && true))))))))) (runs_eq (b := ((decide (x_.k = 0)) && ((decide (x_.l = 0)) && ((decide (x_.o = 0)) && ((decide (x_.s = 0)) && (((decide (x_.a = 0)) && ((decide (x_.b = 0)) && ((decide (x_.c = 0)) && ((decide (x_.d = 0)) && true)))) && ((decide (x_.e = 0)) && ((decide (x_.m = 0)) && true)))))))) (by kernel_rfl)) ?_
 refine zE 1 (hK9 _ _ ?_)
 refine W.cond ((decide (x_.k = 0)) && ((decide (x_.l = 0)) && ((decide (x_.o = 0)) && ((decide (x_.s = 0)) && (((decide (x_.a = 0)) && ((decide (x_.b = 0)) && ((decide (x_.c = 0)) && ((decide (x_.d = 0)) && true)))) && ((decide (x_.e = 0)) && ((decide (x_.m = 0)) && true))))))) (by kernel_rfl) (fun h16 => ?_) (fun h16 => ?_)
 ·
  have h16p : x_.k = 0 ∧ x_.l = 0 ∧ x_.o = 0 ∧ x_.s = 0 ∧ (x_.a = 0 ∧ x_.b = 0 ∧ x_.c = 0 ∧ x_.d = 0) ∧ x_.e = 0 ∧ x_.m = 0 := by simpa using h16
  refine W.sr fun K17 hK17 => ?_
  refine zE 1 (hK17 _ _ ?_)
  refine W.ret (ret_seq ?_)
  have hs18 := St.tk0 hs12
  refine ret_of (.bool false) (by kernel_rfl) ⟨_, ⟨congrArg Value.bool (decide_eq_false (by first | (intro q; exact absurd q.1 (by assumption)) | ((try simp only [mx_lt, le_mx, ge_iff_le, Int.not_le] at *); simp only [RightP]; omega))).symm, rfl⟩, hs18⟩
 have h16p : ¬ (x_.k = 0 ∧ x_.l = 0 ∧ x_.o = 0 ∧ x_.s = 0 ∧ (x_.a = 0 ∧ x_.b = 0 ∧ x_.c = 0 ∧ x_.d = 0) ∧ x_.e = 0 ∧ x_.m = 0) := by simpa using h16
 refine W.skip ?_
 refine hK8 _ _ ?_
 refine W.seq fun K19 hK19 => ?_
 have hs20 := hs12.drew
 refine W.regionD [(0, 0), (1, 1), (0, 0), (4, 4), (8, 8), (18, 18), (63, 32)] (fun w_ => St B w [] w_ [zb b7 61 [(zu x_.k), (zu x_.l), (zu x_.o), (zu x_.s), (zu x_.a), (zu x_.b), (zu x_.c), (zu x_.d), (zu x_.e), (zu x_.m)], zb b4 33 [(zi gw), (zi gi), (zi gb)]]) (by kernel_rfl) hs20 ?_
 refine zA (.pointer (some ⟨b7, 4, none⟩)) 0 hs20 ?_
 refine zA (.slice (some ⟨b7, 4, none⟩) 4 4) 1 hs20 ?_
 refine zA (.pointer (some ⟨b7, 8, none⟩)) 2 hs20 ?_
 refine zB 3 ⟨b7, 8, none⟩ (zu x_.e) (fun _ hS_ => (hS_.cellAt 0 rfl rfl)) hs20 ?_
 refine any_step 4 (by kernel_rfl) (by kernel_rfl) ?_
 refine ops_new (fun b => .slice (some ⟨b, 0, none⟩) 1 1) (.cells [(zu x_.e)].toArray 58 (0, 0)) hs20 (by kernel_rfl) (fun b23 w21 hs22 => ?_)
 have hs24 := St.f2 hs22
 have hs25 := St.f2 hs24
 have hs26 := St.tk2 hs25
 refine ops_done (by kernel_rfl) ⟨hs26, ?_⟩
 refine any_step 5 (by kernel_rfl) (by kernel_rfl) ?_
 refine ops_appendGrow (e := kU64.e) (size := 1) (bytes := 8) (n := 4) (c := 4) (m := 1) (c' := 1) (olds := [(zu x_.a), (zu x_.b), (zu x_.c), (zu x_.d)]) (news := [(zu x_.e)]) hs22 (by kernel_rfl) rfl (cells_sub (off := 4) (hs22.heapAt 1 rfl) rfl) rfl (cells_sub (off := 0) (hs22.heapAt 0 rfl) rfl) (by decide) (by decide) (by decide) (fun a27 c28 w29 hs30 => ?_)
 have hs31 : St B w [] w29 [kU64.row a27 c28 ([x_.a, x_.b, x_.c, x_.d, x_.e]), zb b23 58 [(zu x_.e)], zb b7 61 [(zu x_.k), (zu x_.l), (zu x_.o), (zu x_.s), (zu x_.a), (zu x_.b), (zu x_.c), (zu x_.d), (zu x_.e), (zu x_.m)], zb b4 33 [(zi gw), (zi gi), (zi gb)]] := hs30
 have hs32 := St.f3 hs31
 have hs33 := St.f3 hs32
 have hs34 := St.tk2 hs33
 refine ops_done (by kernel_rfl) ⟨hs34, ?_⟩
 refine zA (.slice a27 5 c28) 6 hs34 ?_
 refine any_done (by kernel_rfl) ?_
 refine hK19 _ _ ?_
 refine W.seq fun K35 hK35 => ?_
 refine W.seq fun K36 hK36 => ?_
 have hs37 := hs31.drew
 refine W.regionD [(0, 0), (1, 1), (0, 0), (4, 4), (8, 8), (18, 18), (34, 32), (64, 64), (192, 192), (64, 64), (576, 576), (1088, 1088), (2368, 2368), (4160, 4160)] (fun w_ => St B w [] w_ [kU64.row a27 c28 ([x_.a, x_.b, x_.c, x_.d, x_.e]), zb b23 58 [(zu x_.e)], zb b7 61 [(zu x_.k), (zu x_.l), (zu x_.o), (zu x_.s), (zu x_.a), (zu x_.b), (zu x_.c), (zu x_.d), (zu x_.e), (zu x_.m)], zb b4 33 [(zi gw), (zi gi), (zi gb)]]) (by kernel_rfl) hs37 ?_
 refine zA (.slice a27 5 c28) 0 hs37 ?_
 refine zA (.pointer (some ⟨b4, 2, none⟩)) 2 hs37 ?_
 refine zB 3 ⟨b4, 2, none⟩ (zi gb) (fun _ hS_ => (hS_.cellAt 3 rfl rfl)) hs37 ?_
 refine any_val (v := .int .u64 (IntKind.u64.wrap gb)) (v' := .int .u64 gb) 4 (by kernel_rfl) (fun _ => by kernel_rfl) (congrArg (Value.int .u64) (wrap_u64 (by omega) (by omega))) hs37 ?_
 refine any_step 1 (by kernel_rfl) (by kernel_rfl) ?_
 refine zC00 hs37 (max5_spec (mc := c28) (a_ := x_.a) (b_ := x_.b) (c_ := x_.c) (d_ := x_.d) (e_ := x_.e) (hm := (St.kcells kU64 hs37 0 rfl)) B _) fun w38 hs40 => ?_
 refine ops_done (by kernel_rfl) ⟨hs40, ?_⟩
 refine zA (.bool (decide ((mx (mx (mx (mx x_.a x_.b) x_.c) x_.d) x_.e) ≥ gb))) 5 hs40 ?_
 refine zA (.bool (decide ((mx (mx (mx (mx x_.a x_.b) x_.c) x_.d) x_.e) ≥ gb))) 6 hs40 ?_
 rcases Bool.eq_false_or_eq_true (decide ((mx (mx (mx (mx x_.a x_.b) x_.c) x_.d) x_.e) ≥ gb)) with h41 | h41
 ·
  have h41p := of_decide_eq_true h41
  refine any_set 25 (v := .bool true) (eq_bool_of (by kernel_rfl) h41) ?_
  refine any_set 26 (v := .bool true) (eq_bool_of (by kernel_rfl) h41) ?_
  refine any_skip 7 (by kernel_rfl) (by kernel_rfl) hs40 ?_
  refine any_skip 8 (by kernel_rfl) (by kernel_rfl) hs40 ?_
  refine any_skip 9 (by kernel_rfl) (by kernel_rfl) hs40 ?_
  refine any_skip 10 (by kernel_rfl) (by kernel_rfl) hs40 ?_
  refine any_skip 11 (by kernel_rfl) (by kernel_rfl) hs40 ?_
  refine any_skip 12 (by kernel_rfl) (by kernel_rfl) hs40 ?_
  refine zA (.bool true) 13 hs40 ?_
  refine any_done (by kernel_rfl) ?_
  refine hK36 _ _ ?_
  refine W.cond_true true (by kernel_rfl) rfl ?_
  refine W.sr fun K42 hK42 => ?_
  refine zE 1 (hK42 _ _ ?_)
  refine W.ret (ret_seq ?_)
  have hs43 := St.tk0 hs40
  refine ret_of (.bool false) (by kernel_rfl) ⟨_, ⟨congrArg Value.bool (decide_eq_false (by first | (intro q; exact absurd q.1 (by assumption)) | ((try simp only [mx_lt, le_mx, ge_iff_le, Int.not_le] at *); simp only [RightP]; omega))).symm, rfl⟩, hs43⟩
 have h41p := of_decide_eq_false h41
 refine any_set 25 (v := .bool false) (eq_bool_of (by kernel_rfl) h41) ?_
 refine any_set 26 (v := .bool false) (eq_bool_of (by kernel_rfl) h41) ?_
 refine zA (.pointer (some ⟨b7, 9, none⟩)) 7 hs40 ?_
 refine zB 8 ⟨b7, 9, none⟩ (zu x_.m) (fun _ hS_ => (hS_.cellAt 2 rfl rfl)) hs40 ?_
 refine zA (.pointer (some ⟨b4, 1, none⟩)) 9 hs40 ?_
 refine zB 10 ⟨b4, 1, none⟩ (zi gi) (fun _ hS_ => (hS_.cellAt 3 rfl rfl)) hs40 ?_
 refine any_val (v := .int .u64 (IntKind.u64.wrap gi)) (v' := .int .u64 gi) 11 (by kernel_rfl) (fun _ => by kernel_rfl) (congrArg (Value.int .u64) (wrap_u64 (by omega) (by omega))) hs40 ?_
 refine zA (.bool (decide (x_.m ≥ gi))) 12 hs40 ?_
 refine zA (.bool (decide (x_.m ≥ gi))) 13 hs40 ?_
 refine any_done (by kernel_rfl) ?_
 refine hK36 _ _ ?_
 refine W.cond (decide (x_.m ≥ gi)) (by kernel_rfl) (fun h44 => ?_) (fun h44 => ?_)
 ·
  have h44p := of_decide_eq_true h44
  refine W.sr fun K45 hK45 => ?_
  refine zE 1 (hK45 _ _ ?_)
  refine W.ret (ret_seq ?_)
  have hs46 := St.tk0 hs40
  refine ret_of (.bool false) (by kernel_rfl) ⟨_, ⟨congrArg Value.bool (decide_eq_false (by first | (intro q; exact absurd q.1 (by assumption)) | ((try simp only [mx_lt, le_mx, ge_iff_le, Int.not_le] at *); simp only [RightP]; omega))).symm, rfl⟩, hs46⟩
 have h44p := of_decide_eq_false h44
 refine W.skip ?_
 refine hK35 _ _ ?_
 refine W.seq fun K47 hK47 => ?_
 refine W.sr fun K48 hK48 => ?_
 refine zR 1 ?_
 refine zL ⟨b7, 1, none⟩ (zu x_.l) (hs40.cellAt 2 rfl rfl) ?_
 refine zR 2 ?_
 rcases Bool.eq_false_or_eq_true (decide (x_.l > 65536)) with h49 | h49
 ·
  have h49p := of_decide_eq_true h49
  refine zS 37 h49 ?_
  refine zS 36 h49 ?_
  refine zE 9 (hK48 _ _ ?_)
  refine W.cond_true true (by kernel_rfl) rfl ?_
  refine W.sr fun K50 hK50 => ?_
  refine zE 1 (hK50 _ _ ?_)
  refine W.ret (ret_seq ?_)
  have hs51 := St.tk0 hs40
  refine ret_of (.bool false) (by kernel_rfl) ⟨_, ⟨congrArg Value.bool (decide_eq_false (by first | (intro q; exact absurd q.1 (by assumption)) | ((try simp only [mx_lt, le_mx, ge_iff_le, Int.not_le] at *); simp only [RightP]; omega))).symm, rfl⟩, hs51⟩
 have h49p := of_decide_eq_false h49
 refine zS 37 h49 ?_
 refine zS 36 h49 ?_
 refine zR 1 ?_
 refine zL ⟨b7, 2, none⟩ (zu x_.o) (hs40.cellAt 2 rfl rfl) ?_
 refine zR 3 ?_
 rcases Bool.eq_false_or_eq_true (decide (x_.o > 16)) with h52 | h52
 ·
  have h52p := of_decide_eq_true h52
  refine zS 42 h52 ?_
  refine zS 40 h52 ?_
  refine zS 41 h52 ?_
  refine zE 4 (hK48 _ _ ?_)
  refine W.cond_true true (by kernel_rfl) rfl ?_
  refine W.sr fun K53 hK53 => ?_
  refine zE 1 (hK53 _ _ ?_)
  refine W.ret (ret_seq ?_)
  have hs54 := St.tk0 hs40
  refine ret_of (.bool false) (by kernel_rfl) ⟨_, ⟨congrArg Value.bool (decide_eq_false (by first | (intro q; exact absurd q.1 (by assumption)) | ((try simp only [mx_lt, le_mx, ge_iff_le, Int.not_le] at *); simp only [RightP]; omega))).symm, rfl⟩, hs54⟩
 have h52p := of_decide_eq_false h52
 refine zS 42 h52 ?_
 refine zS 40 h52 ?_
 refine zS 41 h52 ?_
 refine zR 1 ?_
 refine zL ⟨b7, 3, none⟩ (zu x_.s) (hs40.cellAt 2 rfl rfl) ?_
 refine zE 2 (hK48 _ _ ?_)
 refine W.cond (decide (x_.s > 768)) (by kernel_rfl) (fun h55 => ?_) (fun h55 => ?_)
 ·
  have h55p := of_decide_eq_true h55
  refine W.sr fun K56 hK56 => ?_
  refine zE 1 (hK56 _ _ ?_)
  refine W.ret (ret_seq ?_)
  have hs57 := St.tk0 hs40
  refine ret_of (.bool false) (by kernel_rfl) ⟨_, ⟨congrArg Value.bool (decide_eq_false (by first | (intro q; exact absurd q.1 (by assumption)) | ((try simp only [mx_lt, le_mx, ge_iff_le, Int.not_le] at *); simp only [RightP]; omega))).symm, rfl⟩, hs57⟩
 have h55p := of_decide_eq_false h55
 refine W.skip ?_
 refine hK47 _ _ ?_
 refine W.seq fun K58 hK58 => ?_
 refine W.sr fun K59 hK59 => ?_
 refine zR 1 ?_
 refine zL ⟨b7, 0, none⟩ (zu x_.k) (hs40.cellAt 2 rfl rfl) ?_
 refine zD (hK59 _ _ ?_)
 refine W.block ?_
 refine W.sr fun K60 hK60 => ?_
 refine zE 2 (hK60 _ _ ?_)
 refine W.cond (decide (x_.k = 1)) (by kernel_rfl) (fun h61 => ?_) (fun h61 => ?_)
 ·
  have h61p := of_decide_eq_true h61
  refine W.sr fun K62 hK62 => ?_
  refine zR 1 ?_
  refine zL ⟨b7, 9, none⟩ (zu x_.m) (hs40.cellAt 2 rfl rfl) ?_
  refine zE 2 (hK62 _ _ ?_)
  refine W.ret (ret_block (ret_seq ?_))
  have hs63 := St.tk0 hs40
  refine ret_of (.bool (decide (x_.m = 0))) (by kernel_rfl) ⟨_, ⟨congrArg Value.bool (decide_eq_decide.2 (by (try simp only [mx_lt, le_mx, ge_iff_le, Int.not_le] at *); simp only [RightP, hm, true_and]; omega)), rfl⟩, hs63⟩
 have h61p := of_decide_eq_false h61
 refine W.sr fun K64 hK64 => ?_
 refine zE 2 (hK64 _ _ ?_)
 refine W.cond (decide (x_.k = 2)) (by kernel_rfl) (fun h65 => ?_) (fun h65 => ?_)
 ·
  have h65p := of_decide_eq_true h65
  refine W.sr fun K66 hK66 => ?_
  refine zR 1 ?_
  refine zL ⟨b7, 3, none⟩ (zu x_.s) (hs40.cellAt 2 rfl rfl) ?_
  refine zE 2 (hK66 _ _ ?_)
  refine W.ret (ret_block (ret_seq ?_))
  have hs67 := St.tk0 hs40
  refine ret_of (.bool (decide (x_.s = 0))) (by kernel_rfl) ⟨_, ⟨congrArg Value.bool (decide_eq_decide.2 (by (try simp only [mx_lt, le_mx, ge_iff_le, Int.not_le] at *); simp only [RightP, hm, true_and]; omega)), rfl⟩, hs67⟩
 have h65p := of_decide_eq_false h65
 refine W.skip ?_
 refine normal_block ?_
 refine hK58 _ _ ?_
 refine W.sr fun K68 hK68 => ?_
 refine zE 1 (hK68 _ _ ?_)
 refine W.ret ?_
 have hs69 := St.tk0 hs40
 refine ret_of (.bool false) (by kernel_rfl) ⟨_, ⟨congrArg Value.bool (decide_eq_false (by first | (intro q; exact absurd q.1 (by assumption)) | ((try simp only [mx_lt, le_mx, ge_iff_le, Int.not_le] at *); simp only [RightP]; omega))).symm, rfl⟩, hs69⟩
end Go.Proofs.Ytmmclabkkigiaaa

set_option maxRecDepth 20000
namespace Go.Proofs.Ytmmclabkkigiaaa
open Go Go.RowKit
theorem ifind_nil {gw gi gb n_ : Int} (B : Nat) (w : World) : Spec Try.prog 46 #[(.pointer none), (.agg #[(zi gw), (zi gi), (zi gb)]), (zi n_)] B w [] (fun v H' => v = .tuple #[.int .i64 0, .int .i64 2] ∧ H' = []) := by
 refine spec_Q Try.func46 rfl fun hs => ?_
 refine W.sr fun K1 hK1 => ?_
 refine zN [(zi gw), (zi gi), (zi gb)] 33 hs fun b4 w2 hs3 => ?_
 refine zE 2 (hK1 _ _ ?_)
 refine W.sr fun K5 hK5 => ?_
 refine zG ⟨b4, 0, none⟩ [(zi gw), (zi gi), (zi gb)] (cells_sub (hs3.heapAt 0 rfl) rfl) ?_
 refine zR 1 ?_
 refine zC00 hs3 (inodeat_spec (gw := gw) (gi := gi) (gb := gb) (n_ := n_) B _) fun w6 hs8 => ?_
 refine zE 1 (hK5 _ _ ?_)
 refine W.seq fun K9 hK9 => ?_
 refine W.block ?_
 refine W.sr fun K10 hK10 => ?_
 refine zE 3 (hK10 _ _ ?_)
 refine W.cond_true true (by kernel_rfl) rfl ?_
 refine W.sr fun K11 hK11 => ?_
 refine zE 2 (hK11 _ _ ?_)
 refine W.ret (ret_block (ret_seq ?_))
 have hs12 := St.tk0 hs8
 refine ret_of (.tuple #[(zi 0), (zi 2)]) (by kernel_rfl) ⟨_, ⟨rfl, rfl⟩, hs12⟩
theorem ifind_spec {b : Nat} {img : List Int} {l : List (Int × Int)} {gw gi gb n_ : Int} (B : Nat) (w : World) (hv : ViewAt (ptr b) img l w) : Spec Try.prog 46 #[(zp b), (.agg #[(zi gw), (zi gi), (zi gb)]), (zi n_)] B w [] (fun v H' => v = .tuple #[.int .i64 (ifind (img.length : Int) gw gi gb n_).1, .int .i64 (ifind (img.length : Int) gw gi gb n_).2] ∧ H' = []) := by
 refine spec_Q Try.func46 rfl fun hs => ?_
 refine W.sr fun K1 hK1 => ?_
 refine zN [(zi gw), (zi gi), (zi gb)] 33 hs fun b4 w2 hs3 => ?_
 refine zE 2 (hK1 _ _ ?_)
 refine W.sr fun K5 hK5 => ?_
 refine zG ⟨b4, 0, none⟩ [(zi gw), (zi gi), (zi gb)] (cells_sub (hs3.heapAt 0 rfl) rfl) ?_
 refine zR 1 ?_
 refine zC00 hs3 (inodeat_spec (gw := gw) (gi := gi) (gb := gb) (n_ := n_) B _) fun w6 hs8 => ?_
 refine zE 1 (hK5 _ _ ?_)
 refine W.seq fun K9 hK9 => ?_
 refine W.block ?_
 refine W.sr fun K10 hK10 => ?_
 refine zE 3 (hK10 _ _ ?_)
 refine W.cond_false false (by kernel_rfl) rfl ?_
 refine W.seq fun K11 hK11 => ?_
 refine W.sr fun K12 hK12 => ?_
 refine zE 3 (hK12 _ _ ?_)
 refine W.cond (decide ((placeOf 8 gw gi gb n_) < 0)) (by kernel_rfl) (fun h13 => ?_) (fun h13 => ?_)
 ·
  have h13p := of_decide_eq_true h13
  refine W.skip ?_
  refine hK11 _ _ ?_
  refine W.cond (decide ((placeOf 8 gw gi gb n_) < 0)) (by kernel_rfl) (fun h14 => ?_) (fun h14 => ?_)
  ·
   have h14p := of_decide_eq_true h14
   refine W.sr fun K15 hK15 => ?_
   refine zE 2 (hK15 _ _ ?_)
   refine W.ret (ret_block (ret_seq ?_))
   have hs16 := St.tk0 hs8
   have e1_ : (ifind (img.length : Int) gw gi gb n_).1 = 0 := by first | (exfalso; omega) | (simp only [ifind]; rw [if_pos (by omega)]) | (simp only [ifind]; rw [if_neg (by omega), if_pos (by omega)]) | (simp only [ifind]; rw [if_neg (by omega), if_neg (by omega)])
   have e2_ : (ifind (img.length : Int) gw gi gb n_).2 = 1 := by first | (exfalso; omega) | (simp only [ifind]; rw [if_pos (by omega)]) | (simp only [ifind]; rw [if_neg (by omega), if_pos (by omega)]) | (simp only [ifind]; rw [if_neg (by omega), if_neg (by omega)])
   refine ret_of (.tuple #[(zi 0), (zi 1)]) (by kernel_rfl) ⟨_, ⟨by rw [e1_, e2_], rfl⟩, hs16⟩
  have h14p := of_decide_eq_false h14
  refine W.seq fun K17 hK17 => ?_
  have hs18 := hs8.drew
  refine W.regionD [(0, 0), (1, 1), (0, 0), (6, 4), (10, 10), (24, 16)] (fun w_ => St B w [] w_ [zb b4 33 [(zi gw), (zi gi), (zi gb)]]) (by kernel_rfl) hs18 ?_
  refine zA (zp b) 0 hs18 ?_
  refine any_R 2 (by kernel_rfl) (fun _ hS_ => runs_loadAgg (ad := ⟨b4, 0, none⟩) (cs := [(zi gw), (zi gi), (zi gb)]) (by kernel_rfl) (cells_sub (hS_.heapAt 0 rfl) rfl)) hs18 ?_
  refine any_step 1 (by kernel_rfl) (by kernel_rfl) ?_
  refine zC00 hs18 (len_spec (hv := (viewAt_old hs18 hv)) B _) fun w19 hs21 => ?_
  refine ops_done (by kernel_rfl) ⟨hs21, ?_⟩
  refine any_step 3 (by kernel_rfl) (by kernel_rfl) ?_
  refine zC00 hs21 (lwords_spec (gw := gw) (gi := gi) (gb := gb) B _) fun w22 hs24 => ?_
  refine ops_done (by kernel_rfl) ⟨hs24, ?_⟩
  refine zA (.bool (decide ((img.length : Int) < (wordsOf gw gi gb)))) 4 hs24 ?_
  refine zA (.bool (decide ((img.length : Int) < (wordsOf gw gi gb)))) 5 hs24 ?_
  refine any_done (by kernel_rfl) ?_
  refine hK17 _ _ ?_
  refine W.cond (decide ((img.length : Int) < (wordsOf gw gi gb))) (by kernel_rfl) (fun h25 => ?_) (fun h25 => ?_)
  ·
   have h25p := of_decide_eq_true h25
   refine W.sr fun K26 hK26 => ?_
   refine zE 2 (hK26 _ _ ?_)
   refine W.ret (ret_block (ret_seq ?_))
   have hs27 := St.tk0 hs24
   have e1_ : (ifind (img.length : Int) gw gi gb n_).1 = 0 := by first | (exfalso; omega) | (simp only [ifind]; rw [if_pos (by omega)]) | (simp only [ifind]; rw [if_neg (by omega), if_pos (by omega)]) | (simp only [ifind]; rw [if_neg (by omega), if_neg (by omega)])
   have e2_ : (ifind (img.length : Int) gw gi gb n_).2 = 8 := by first | (exfalso; omega) | (simp only [ifind]; rw [if_pos (by omega)]) | (simp only [ifind]; rw [if_neg (by omega), if_pos (by omega)]) | (simp only [ifind]; rw [if_neg (by omega), if_neg (by omega)])
   refine ret_of (.tuple #[(zi 0), (zi 8)]) (by kernel_rfl) ⟨_, ⟨by rw [e1_, e2_], rfl⟩, hs27⟩
  have h25p := of_decide_eq_false h25
  refine W.skip ?_
  refine normal_block ?_
  refine hK9 _ _ ?_
  refine W.sr fun K28 hK28 => ?_
  refine zE 3 (hK28 _ _ ?_)
  refine W.ret ?_
  have hs29 := St.tk0 hs24
  have e1_ : (ifind (img.length : Int) gw gi gb n_).1 = (placeOf 8 gw gi gb n_) := by first | (exfalso; omega) | (simp only [ifind]; rw [if_pos (by omega)]) | (simp only [ifind]; rw [if_neg (by omega), if_pos (by omega)]) | (simp only [ifind]; rw [if_neg (by omega), if_neg (by omega)])
  have e2_ : (ifind (img.length : Int) gw gi gb n_).2 = 0 := by first | (exfalso; omega) | (simp only [ifind]; rw [if_pos (by omega)]) | (simp only [ifind]; rw [if_neg (by omega), if_pos (by omega)]) | (simp only [ifind]; rw [if_neg (by omega), if_neg (by omega)])
  refine ret_of (.tuple #[(zi (placeOf 8 gw gi gb n_)), (zi 0)]) (by kernel_rfl) ⟨_, ⟨by rw [e1_, e2_], rfl⟩, hs29⟩
 have h13p := of_decide_eq_false h13
 refine W.region ?_
 refine zE 3 (hK11 _ _ ?_)
 refine W.cond (decide (n_ = 0)) (by kernel_rfl) (fun h30 => ?_) (fun h30 => ?_)
 ·
  have h30p := of_decide_eq_true h30
  refine W.sr fun K31 hK31 => ?_
  refine zE 2 (hK31 _ _ ?_)
  refine W.ret (ret_block (ret_seq ?_))
  have hs32 := St.tk0 hs8
  have e1_ : (ifind (img.length : Int) gw gi gb n_).1 = 0 := by first | (exfalso; omega) | (simp only [ifind]; rw [if_pos (by omega)]) | (simp only [ifind]; rw [if_neg (by omega), if_pos (by omega)]) | (simp only [ifind]; rw [if_neg (by omega), if_neg (by omega)])
  have e2_ : (ifind (img.length : Int) gw gi gb n_).2 = 1 := by first | (exfalso; omega) | (simp only [ifind]; rw [if_pos (by omega)]) | (simp only [ifind]; rw [if_neg (by omega), if_pos (by omega)]) | (simp only [ifind]; rw [if_neg (by omega), if_neg (by omega)])
  refine ret_of (.tuple #[(zi 0), (zi 1)]) (by kernel_rfl) ⟨_, ⟨by rw [e1_, e2_], rfl⟩, hs32⟩
 have h30p := of_decide_eq_false h30
 refine W.seq fun K33 hK33 => ?_
 have hs34 := hs8.drew
 refine W.regionD [(0, 0), (1, 1), (0, 0), (6, 4), (10, 10), (24, 16)] (fun w_ => St B w [] w_ [zb b4 33 [(zi gw), (zi gi), (zi gb)]]) (by kernel_rfl) hs34 ?_
 refine zA (zp b) 0 hs34 ?_
 refine any_R 2 (by kernel_rfl) (fun _ hS_ => runs_loadAgg (ad := ⟨b4, 0, none⟩) (cs := [(zi gw), (zi gi), (zi gb)]) (by kernel_rfl) (cells_sub (hS_.heapAt 0 rfl) rfl)) hs34 ?_
 refine any_step 1 (by kernel_rfl) (by kernel_rfl) ?_
 refine zC00 hs34 (len_spec (hv := (viewAt_old hs34 hv)) B _) fun w35 hs37 => ?_
 refine ops_done (by kernel_rfl) ⟨hs37, ?_⟩
 refine any_step 3 (by kernel_rfl) (by kernel_rfl) ?_
 refine zC00 hs37 (lwords_spec (gw := gw) (gi := gi) (gb := gb) B _) fun w38 hs40 => ?_
 refine ops_done (by kernel_rfl) ⟨hs40, ?_⟩
 refine zA (.bool (decide ((img.length : Int) < (wordsOf gw gi gb)))) 4 hs40 ?_
 refine zA (.bool (decide ((img.length : Int) < (wordsOf gw gi gb)))) 5 hs40 ?_
 refine any_done (by kernel_rfl) ?_
 refine hK33 _ _ ?_
 refine W.cond (decide ((img.length : Int) < (wordsOf gw gi gb))) (by kernel_rfl) (fun h41 => ?_) (fun h41 => ?_)
 ·
  have h41p := of_decide_eq_true h41
  refine W.sr fun K42 hK42 => ?_
  refine zE 2 (hK42 _ _ ?_)
  refine W.ret (ret_block (ret_seq ?_))
  have hs43 := St.tk0 hs40
  have e1_ : (ifind (img.length : Int) gw gi gb n_).1 = 0 := by first | (exfalso; omega) | (simp only [ifind]; rw [if_pos (by omega)]) | (simp only [ifind]; rw [if_neg (by omega), if_pos (by omega)]) | (simp only [ifind]; rw [if_neg (by omega), if_neg (by omega)])
  have e2_ : (ifind (img.length : Int) gw gi gb n_).2 = 8 := by first | (exfalso; omega) | (simp only [ifind]; rw [if_pos (by omega)]) | (simp only [ifind]; rw [if_neg (by omega), if_pos (by omega)]) | (simp only [ifind]; rw [if_neg (by omega), if_neg (by omega)])
  refine ret_of (.tuple #[(zi 0), (zi 8)]) (by kernel_rfl) ⟨_, ⟨by rw [e1_, e2_], rfl⟩, hs43⟩
 have h41p := of_decide_eq_false h41
 refine W.skip ?_
 refine normal_block ?_
 refine hK9 _ _ ?_
 refine W.sr fun K44 hK44 => ?_
 refine zE 3 (hK44 _ _ ?_)
 refine W.ret ?_
 have hs45 := St.tk0 hs40
 have e1_ : (ifind (img.length : Int) gw gi gb n_).1 = (placeOf 8 gw gi gb n_) := by first | (exfalso; omega) | (simp only [ifind]; rw [if_pos (by omega)]) | (simp only [ifind]; rw [if_neg (by omega), if_pos (by omega)]) | (simp only [ifind]; rw [if_neg (by omega), if_neg (by omega)])
 have e2_ : (ifind (img.length : Int) gw gi gb n_).2 = 0 := by first | (exfalso; omega) | (simp only [ifind]; rw [if_pos (by omega)]) | (simp only [ifind]; rw [if_neg (by omega), if_pos (by omega)]) | (simp only [ifind]; rw [if_neg (by omega), if_neg (by omega)])
 refine ret_of (.tuple #[(zi (placeOf 8 gw gi gb n_)), (zi 0)]) (by kernel_rfl) ⟨_, ⟨by rw [e1_, e2_], rfl⟩, hs45⟩
theorem inode_spec {x_ : Nd} (B : Nat) (w : World) : Spec Try.prog 48 #[(.agg #[(zu x_.k), (zu x_.l), (zu x_.o), (zu x_.s), (zu x_.a), (zu x_.b), (zu x_.c), (zu x_.d), (zu x_.e), (zu x_.m)])] B w [] (fun v H' => v = (.agg #[(zu x_.k), (zu x_.l), (zu x_.o), (zu x_.s), (zu x_.a), (zu x_.b), (zu x_.c), (zu x_.d), (zu x_.e), (zu x_.m)]) ∧ H' = []) := by
 refine spec_Q Try.func48 rfl fun hs => ?_
 refine W.sr fun K1 hK1 => ?_
 refine zN [(zu x_.k), (zu x_.l), (zu x_.o), (zu x_.s), (zu x_.a), (zu x_.b), (zu x_.c), (zu x_.d), (zu x_.e), (zu x_.m)] 93 hs fun b4 w2 hs3 => ?_
 refine zN [(zu 0), (zu 0), (zu 0), (zu 0), (zu 0), (zu 0), (zu 0), (zu 0), (zu 0), (zu 0)] 61 hs3 fun b7 w5 hs6 => ?_
 refine zD (hK1 _ _ ?_)
 refine W.seq fun K8 hK8 => ?_
 have hs9 := hs6.drew
 have hs10 := St.f1 hs9
 have hs11 := St.tk1 hs10
 refine W.regionD [(0, 0), (1, 1), (0, 0), (4, 4), (0, 0), (16, 16), (0, 0), (64, 64), (0, 0), (256, 256), (512, 512), (0, 0), (2048, 2048), (0, 0), (8192, 8192), (21674, 21674), (65535, 32768)] (fun w_ => St B w [] w_ [zb b4 93 [(zu x_.k), (zu x_.l), (zu x_.o), (zu x_.s), (zu x_.a), (zu x_.b), (zu x_.c), (zu x_.d), (zu x_.e), (zu x_.m)]]) (by kernel_rfl) hs11 ?_
 refine zA (zp b4) 0 hs11 ?_
 refine zB 1 ⟨b4, 0, none⟩ (zu x_.k) (fun _ hS_ => (hS_.cellAt 0 rfl rfl)) hs11 ?_
 refine zA (.pointer (some ⟨b4, 1, none⟩)) 2 hs11 ?_
 refine zB 3 ⟨b4, 1, none⟩ (zu x_.l) (fun _ hS_ => (hS_.cellAt 0 rfl rfl)) hs11 ?_
 refine zA (.pointer (some ⟨b4, 2, none⟩)) 4 hs11 ?_
 refine zB 5 ⟨b4, 2, none⟩ (zu x_.o) (fun _ hS_ => (hS_.cellAt 0 rfl rfl)) hs11 ?_
 refine zA (.pointer (some ⟨b4, 3, none⟩)) 6 hs11 ?_
 refine zB 7 ⟨b4, 3, none⟩ (zu x_.s) (fun _ hS_ => (hS_.cellAt 0 rfl rfl)) hs11 ?_
 refine zA (.slice (some ⟨b4, 4, none⟩) 4 6) 8 hs11 ?_
 refine zA (.pointer (some ⟨b4, 4, none⟩)) 9 hs11 ?_
 refine any_R 10 (by kernel_rfl) (fun _ hS_ => runs_loadAgg (ad := ⟨b4, 4, none⟩) (cs := [(zu x_.a), (zu x_.b), (zu x_.c), (zu x_.d)]) (by kernel_rfl) (cells_sub (hS_.heapAt 0 rfl) rfl)) hs11 ?_
 refine zA (.pointer (some ⟨b4, 8, none⟩)) 11 hs11 ?_
 refine zB 12 ⟨b4, 8, none⟩ (zu x_.e) (fun _ hS_ => (hS_.cellAt 0 rfl rfl)) hs11 ?_
 refine zA (.pointer (some ⟨b4, 9, none⟩)) 13 hs11 ?_
 refine zB 14 ⟨b4, 9, none⟩ (zu x_.m) (fun _ hS_ => (hS_.cellAt 0 rfl rfl)) hs11 ?_
 refine zA (.agg #[(zu x_.k), (zu x_.l), (zu x_.o), (zu x_.s), (zu x_.a), (zu x_.b), (zu x_.c), (zu x_.d), (zu x_.e), (zu x_.m)]) 15 hs11 ?_
 refine any_step 16 (by kernel_rfl) (by kernel_rfl) ?_
 refine zT 0 [(zu x_.k), (zu x_.l), (zu x_.o), (zu x_.s), (zu x_.a), (zu x_.b), (zu x_.c), (zu x_.d), (zu x_.e), (zu x_.m)] [(zu x_.k), (zu x_.l), (zu x_.o), (zu x_.s), (zu x_.a), (zu x_.b), (zu x_.c), (zu x_.d), (zu x_.e), (zu x_.m)] hs9 fun w12 hs14 => ?_
 have hs15 := St.f1 hs14
 have hs16 := St.tk1 hs15
 refine ops_done (by kernel_rfl) ⟨hs16, ?_⟩
 refine any_done (by kernel_rfl) ?_
 refine hK8 _ _ ?_
 refine W.ret ?_
 have hs17 := St.tk0 hs14
 refine ret_of (.agg #[(zu x_.k), (zu x_.l), (zu x_.o), (zu x_.s), (zu x_.a), (zu x_.b), (zu x_.c), (zu x_.d), (zu x_.e), (zu x_.m)]) (results_cell (ad := ⟨b7, 0, none⟩) (cs := [(zu x_.k), (zu x_.l), (zu x_.o), (zu x_.s), (zu x_.a), (zu x_.b), (zu x_.c), (zu x_.d), (zu x_.e), (zu x_.m)]) rfl (by kernel_rfl) (by kernel_rfl) (cells_sub (hs14.heapAt 0 rfl) rfl)) ⟨_, ⟨rfl, rfl⟩, hs17⟩
end Go.Proofs.Ytmmclabkkigiaaa
