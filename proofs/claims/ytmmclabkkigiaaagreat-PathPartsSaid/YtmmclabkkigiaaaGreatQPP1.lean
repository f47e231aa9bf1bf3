/- Texts, one behind the other: Rn, Kw, Sg, Sc, Sv, Sx, Rb, Au, Zp, F0h, Sk, S2, F5a, F5b, F5e, F5f, Lg, Rm, F0i, F0j, Bt, A0p, A0k, A0t, F6a. -/
import Derived.Laws.BytesArg
import Derived.Lib.ConvBytes
import Derived.Laws.AppendOwn
import Derived.Laws.OwnMore
import Derived.Laws.Entries
import Derived.Test.YtmmclabkkigiaaaGreatQPP0
set_option linter.unusedVariables false
set_option linter.unusedSimpArgs false
namespace Go.Proofs.YtmmclabkkigiaaaGreat
open Go Go.RowKit
theorem W.normD {P : Program} {c : Code} {s : Fs} {w : World} {Q : Exit → Fs → World → Prop} {n : Nat} {r : Option Nat} {d : List Deferred} {l : List (Nat × Value)} (h : ((s.n, s.r, s.d), l.map fun p => s.f p.1) = ((n, r, d), l.map (·.2))) (hk : ∀ us, W P c (slotsD n l us r d) w Q) : W P c s w Q := by
  obtain ⟨us, rfl⟩ := slotsD_intro s h
  exact hk us
theorem run_enterLoop_inner {P : Program} {w : World} {lo : Nat} {rc0 : Loop} (h : w.heap[lo]? = some (.loop rc0)) (fn : FuncId) (tmps : Array Value) (ps : Array Tmp) (assign body : Code) :
    (Instr.enterLoop fn tmps ps assign body (some lo)).run P w = .ok (w.heap.size, []) (w.alloc (.loop { state := .ready, pending := none, fn, tmps, params := ps, assign, body, defers := rc0.defers })) := by
  unfold Instr.enterLoop
  simp only [Sem.run_bind, run_getLoop h, run_newObj_alloc, Result.andThen, Sem.run_pure]
theorem W.rangeFuncIn {P : Program} {s : Fs} {w : World} {Q : Exit → Fs → World → Prop} {B : Nat} {w0 : World} {l0 : List Nat} {g : Operand} {ps : Array Tmp} {assign body : Code} {gf : Nat} {lb : Array Value} {pre R : List Asn}
    {post : Loop → Nat → Value → List Asn → Prop} {lo : Nat} {rc0 : Loop}
    (hs : St B w0 l0 w (pre ++ (blk lo (.loop rc0) :: R))) (hr : s.r = some lo) (hg : evS s g = .func (.func gf) #[] lb) (hf : ∀ args w, (callFunc gf args).run P w = .ok (.enter gf args) w)
    (hc : ∀ (rc : Loop) (l : Nat) (w1 : World), rc.tmps.size = s.n → (∀ i, rc.tmps.getD i undef = s.f i) → rc.state = .ready → rc.pending = none → rc.params = ps → rc.assign = assign → rc.body = body →
      St B w0 l0 w1 (blk l (.loop rc) :: (pre ++ (blk lo (.loop rc0) :: R))) → Spec P gf (#[.func (.yield l) #[] #[]] ++ lb) B w1 (blk l (.loop rc) :: pre) (post rc l))
    (hk : ∀ (rc : Loop) (l : Nat) (v : Value) (H' : List Asn), post rc l v H' → ∃ rc' H'', rc'.state ≠ .busy ∧ H' = blk l (.loop rc') :: H'' ∧
      ∀ w3, St B w0 l0 w3 (H'' ++ (blk lo (.loop rc0) :: R)) → match rc'.pending with
        | none => Q .normal s w3
        | some c => W P c s w3 Q) : W P (.rangeFunc g ps assign body) s w Q := by
  refine ⟨fun x hx => ?_⟩
  rw [hr]
  refine wpIn_rangeFunc ?_
  intro fn _
  obtain ⟨rc, hrc⟩ : ∃ rc : Loop, rc = { state := .ready, pending := none, fn, tmps := x.tmps, params := ps, assign, body, defers := rc0.defers } := ⟨_, rfl⟩
  have hB := hs.size
  have hlo : w.heap[lo]? = some (.loop rc0) := by
    refine hs.heapAt pre.length ?_
    simp
  have hs2 : St B w0 l0 (w.alloc (.loop rc)) (blk w.heap.size (.loop rc) :: (pre ++ (blk lo (.loop rc0) :: R))) := by
    refine St.step0 (post := [blk w.heap.size (.loop rc)]) hs ⟨[w.heap.size], ⟨[w.heap.size], [], ⟨hB, heap_alloc_new w _, rfl⟩, fun c => by simp, fun c _ => by simp, by simp⟩, rfl, rfl, rfl, by simp, fun c hc _ => Below.heap_alloc _ _ _ hc, fun c hc => .inr (by simp only [List.mem_singleton] at hc; omega)⟩
  have hspec := hc rc w.heap.size _ (by rw [hrc]; exact hx.1.1) (by rw [hrc]; exact hx.2) (by rw [hrc]) (by rw [hrc]) (by rw [hrc]) (by rw [hrc]) (by rw [hrc]) hs2
  have hs3 : St B w0 l0 (w.alloc (.loop rc)) ((blk w.heap.size (.loop rc) :: pre) ++ (blk lo (.loop rc0) :: R)) := hs2
  obtain ⟨l1, s1, key⟩ := hs3.part
  refine ⟨w.heap.size, [], w.alloc (.loop rc), { target := .fn (.func gf) lb, args := #[.func (.yield w.heap.size) #[] #[]] }, w.alloc (.loop rc), gf,
    #[.func (.yield w.heap.size) #[] #[]] ++ lb, w.alloc (.loop rc), by rw [show (fen (some lo)).round = some lo from rfl, run_enterLoop_inner hlo, ← hrc], ?_, fun _ _ => trivial, ?_, fen_depth, ?_⟩
  · simp only [resolve, ev_rel hx, hg]
    simp [go_sem]
    rfl
  · simp [invoke, go_sem, hf]
  · refine calls_fen (Calls.mono (hspec l1 hs3.size s1) ?_)
    rintro e w3 ⟨v, rfl, H', l', hp, hsep, hu⟩
    obtain ⟨rc', H'', hne, rfl, hfin⟩ := hk rc _ v H' hp
    have hs4 := key w3 _ l' hsep hu
    have hs5 := putObj_blk (.loop { rc' with state := .exhausted }) hs4
    have hs6 := hs5.drop
    refine ⟨rc'.pending, _, run_endLoop (hs4.heapAt 0 rfl) hne, ?_⟩
    have h8 := hfin _ hs6
    have hrel : Rel { x with defers := [] ++ x.defers } s := hx
    cases hpe : rc'.pending with
    | none => rw [hpe] at h8; exact ⟨_, hrel, hr, h8⟩
    | some c =>
      rw [hpe] at h8
      have h9 := W.out h8 _ hrel
      rw [hr] at h9
      exact h9
theorem W.roundsIn {G GZ : Type} {P : Program} {s : Fs} {w : World} {Q : Exit → Fs → World → Prop} {B : Nat} {w0 : World} {l0 : List Nat} {g : Operand} {ps : Array Tmp} {assign body : Code} {gf : Nat} {lb : Array Value} {lo : Nat} {rc0 : Loop}
    (n : Nat) (F : Nat → G → Prop) (Hs : G → List Asn) (c : Code) (FZ : GZ → Prop) (HsZ : GZ → List Asn) (own : List Asn) (enc : Nat → Array Value) (s0 : Nat → Nat → Fs) (x0 : G) (h0 : F 0 x0)
    (hs : St B w0 l0 w ((own ++ Hs x0) ++ [blk lo (.loop rc0)])) (hr : s.r = some lo) (hg : evS s g = .func (.func gf) #[] lb) (hf : ∀ args w, (callFunc gf args).run P w = .ok (.enter gf args) w) (hsz : ∀ k, (enc k).size = ps.size)
    (hrel : ∀ (a : Array Value) (k l : Nat), a.size = s.n → (∀ i, a.getD i undef = s.f i) → Rel ⟨(ps.zip (enc k)).foldl (fun tmps (t, a) => tmps.setIfInBounds t a) a, []⟩ (s0 k l) ∧ (s0 k l).r = some l)
    (ar : Nat → Array Value) (har : ∀ l, #[.func (.yield l) #[] #[]] ++ lb = ar l)
    (iter : ∀ (l : Nat) (w1 : World) (Y : Nat → Asn) (Z : Asn), (∀ k, k < n → ∀ w', YSpec P l (enc k) B w' [Y k] (fun v H' => (v = .bool true ∧ H' = [Y (k + 1)]) ∨ (v = .bool false ∧ H' = [Z]))) →
      Spec P gf (ar l) B w1 (own ++ [Y 0]) (fun v H' => v = .tuple #[] ∧ (H' = own ++ [Y n] ∨ H' = own ++ [Z])))
    (round : ∀ (k : Nat), k < n → ∀ (rc : Loop) (l : Nat) (w' : World) (x : G), F k x → ∀ lf, St B w' lf w' (blk l (.loop rc) :: Hs x) → ∀ K : Fs → World → Prop, (∀ s' w1, St B w' lf w1 (blk l (.loop rc) :: Hs x) →
      (∀ w2, St B w' lf w2 (blk l (.loop { rc with state := .busy }) :: Hs x) → W P body s' w2 (rq B w' lf l rc (F (k + 1)) Hs c FZ HsZ)) → K s' w1) → W P assign (s0 k l) w' (seqQ K (fun _ _ _ => False)))
    (done : ∀ w3 x, F n x → St B w0 l0 w3 ((own ++ Hs x) ++ [blk lo (.loop rc0)]) → Q .normal s w3)
    (jump : ∀ w3 z, FZ z → St B w0 l0 w3 ((own ++ HsZ z) ++ [blk lo (.loop rc0)]) → W P c s w3 Q) : W P (.rangeFunc g ps assign body) s w Q := by
  refine W.rangeFuncIn (pre := own ++ Hs x0) (R := []) (post := fun rc l v H' => v = .tuple #[] ∧ ((∃ x, F n x ∧ H' = blk l (.loop rc) :: (own ++ Hs x)) ∨ (∃ z, FZ z ∧ H' = blk l (.loop { rc with state := .done, pending := some c }) :: (own ++ HsZ z))) ∧ rc.state = .ready ∧ rc.pending = none) hs hr hg hf ?_ ?_
  · intro rc l w1 h1 h2 h3 h4 h5 h6 h7 hs1
    have hyy : ∀ k, k < n → ∀ w', YSpec P l (enc k) B w' [YA l rc (F k) Hs] (fun v H' => (v = .bool true ∧ H' = [YA l rc (F (k + 1)) Hs]) ∨ (v = .bool false ∧ H' = [YA l { rc with state := .done, pending := some c } FZ HsZ])) := by
      intro k hk w'
      obtain ⟨hrl, hrr⟩ := hrel rc.tmps k l h1 h2
      rw [← h5] at hrl
      refine yspec_ghost h3 h4 (by rw [h5]; exact hsz k) (s0 k l) hrl hrr ?_
      intro x hF lf hs2
      have hw := round k hk rc l w' x hF lf hs2
      rw [← h6, ← h7] at hw
      exact hw
    have hit := iter l w1 (fun k => YA l rc (F k) Hs) (YA l { rc with state := .done, pending := some c } FZ HsZ) hyy
    rw [← har l] at hit
    intro lf hB hsep
    have st1 : St B w1 lf w1 (blk l (.loop rc) :: (own ++ Hs x0)) := St.begin hB hsep
    have hp1 : (blk l (.loop rc) :: (own ++ Hs x0)).Perm (blk l (.loop rc) :: Hs x0 ++ own) := by
      simp only [List.cons_append]
      exact List.Perm.cons _ List.perm_append_comm
    have st2 := St.close (F := F 0) (Hs := fun x => blk l (.loop rc) :: Hs x) x0 h0 (st1.perm hp1)
    have st3 : St B w1 lf w1 (own ++ [YA l rc (F 0) Hs]) := st2.perm (List.perm_append_singleton _ _).symm
    have st4 : St B w1 lf w1 ((own ++ [YA l rc (F 0) Hs]) ++ []) := by simpa using st3
    obtain ⟨l1, s1, key⟩ := st4.part
    refine Calls.mono (hit l1 hB s1) ?_
    rintro e w3 ⟨v, rfl, H', l', ⟨rfl, hp⟩, hsep', hu⟩
    have fin : ∀ {G' : Type} (rc' : Loop) (F' : G' → Prop) (Hs' : G' → List Asn), H' = own ++ [YA l rc' F' Hs'] → ∃ x, F' x ∧ St B w1 lf w3 (blk l (.loop rc') :: (own ++ Hs' x)) := by
      intro G' rc' F' Hs' hH
      subst hH
      have st5 := key w3 _ l' hsep' hu
      have st6 : St B w1 lf w3 (YA l rc' F' Hs' :: own) := by
        have : ((own ++ [YA l rc' F' Hs']) ++ []).Perm (YA l rc' F' Hs' :: own) := by rw [List.append_nil]; exact List.perm_append_singleton (YA l rc' F' Hs') own
        exact st5.perm this
      obtain ⟨x, hF, st7⟩ := St.open (F := F') (Hs := fun x => blk l (.loop rc') :: Hs' x) st6
      refine ⟨x, hF, st7.perm ?_⟩
      simp only [List.cons_append]
      exact List.Perm.cons _ List.perm_append_comm
    rcases hp with hp | hp
    · obtain ⟨x, hF, _, _, l5, h8, h9⟩ := fin _ _ _ hp
      exact ⟨_, rfl, _, l5, ⟨rfl, .inl ⟨x, hF, rfl⟩, h3, h4⟩, h8, h9⟩
    · obtain ⟨z, hz, _, _, l5, h8, h9⟩ := fin _ _ _ hp
      exact ⟨_, rfl, _, l5, ⟨rfl, .inr ⟨z, hz, rfl⟩, h3, h4⟩, h8, h9⟩
  · rintro rc l v H' ⟨rfl, hp, h3, h4⟩
    rcases hp with ⟨x, hF, rfl⟩ | ⟨z, hz, rfl⟩
    · refine ⟨rc, own ++ Hs x, (fun h => by have h' := h3.symm.trans h; cases h'), rfl, fun w3 hs3 => ?_⟩
      rw [h4]
      exact done w3 x hF hs3
    · refine ⟨{ rc with state := .done, pending := some c }, own ++ HsZ z, (fun h => by cases h), rfl, fun w3 hs3 => ?_⟩
      exact jump w3 z hz hs3
section
variable {P : Program} {ops : Array Oper} {i : Nat} {s : Fs} {w : World}
def intQ : Value → Option Int
  | .int _ k => some k
  | _ => none
theorem intQ_some {v : Value} {z : Int} (h : intQ v = some z) : ∃ k, v = .int k z := by
  unfold intQ at h
  split at h
  · rename_i k _
    cases h
    exact ⟨k, rfl⟩
  · cases h
def slice3Q (P : Program) (ops : Array Oper) (i : Nat) (s : Fs) : Option ((Option Addr × Nat × Nat) × Int × Int × Int × Nat) :=
  match opQ ops i s with
  | some o => match o.op with
    | .slice t x (some y1) (some y2) (some y3) => match P.underlying t, evS s x with
      | some (.slice e), .slice a n c => match P.info? e, intQ (evS s y1), intQ (evS s y2), intQ (evS s y3) with
        | some f, some l, some h, some m => some ((a, n, c), l, h, m, f.size)
        | _, _, _, _ => none
      | _, _ => none
    | _ => none
  | none => none
theorem runs_slice3 {a : Option Addr} {n c size : Nat} (k m z : Nat) (h1 : k ≤ m) (h2 : m ≤ z) (h3 : z ≤ c) (hq : slice3Q P ops i s = some ((a, n, c), (k : Int), (m : Int), (z : Int), size)) :
    RunsTo P ops i s w (.slice (if z = k then a else a.map (·.add (k * size))) (m - k) (z - k)) w := by
  unfold slice3Q at hq
  split at hq
  · rename_i o ho
    split at hq
    · rename_i t x y1 y2 y3 hop
      refine ⟨_, ho, ?_⟩
      split at hq
      · rename_i e a' n' c' hu hx
        split at hq
        · rename_i f l h mx hf hl hh hm
          simp only [Option.some.injEq, Prod.mk.injEq] at hq
          obtain ⟨⟨rfl, rfl, rfl⟩, rfl, rfl, rfl, rfl⟩ := hq
          obtain ⟨q1, e1⟩ := intQ_some hl
          obtain ⟨q2, e2⟩ := intQ_some hh
          obtain ⟨q3, e3⟩ := intQ_some hm
          have hso : (sizeOf e).run P w = .ok f.size w := by simp [sizeOf, typeInfo, hf]
          have hun := run_underlying (P := P) hu w
          have hb : ∀ (q : IntKind) (z y : Nat) (code : BoundsCode), z ≤ y → (Instr.sliceBound (.int q (z : Int)) y code).run P w = .ok z w := by
            intro q z y code hzy
            have : (0 : Int) ≤ (z : Int) ∧ (z : Int) ≤ (y : Int) := ⟨by omega, by omega⟩
            simp only [Instr.sliceBound, asIntOf, Sem.run_bind, Sem.run_pure, Result.andThen_ok, if_pos this, Int.toNat_natCast]
          have hbounds : (Instr.sliceBounds true n' c' (some (.int q1 (k : Int))) (some (.int q2 (m : Int))) (some (.int q3 (z : Int)))).run P w = .ok (k, m, z) w := by
            unfold Instr.sliceBounds
            simp only [Sem.run_bind, Sem.run_pure, Result.andThen_ok, hb q3 z c' _ h3, hb q2 m z _ h2, hb q1 k m _ h1]
          have hxx : (Instr.sliceAt t (.slice a' n' c') (some (.int q1 (k : Int))) (some (.int q2 (m : Int))) (some (.int q3 (z : Int)))).run P w = .ok (.slice (if z = k then a' else a'.map (·.add (k * f.size))) (m - k) (z - k)) w := by
            unfold Instr.sliceAt
            simp only [Sem.run_bind, hun, Result.andThen_ok]
            unfold Instr.slice
            simp only [Sem.run_bind, hun, Result.andThen_ok, hbounds, hso, Sem.run_pure]
          simp only [execOp, hop, hx, Option.map_some, e1, e2, e3, Sem.run_bind, hxx, Result.andThen_ok, Sem.run_pure]
        · cases hq
      · cases hq
    · cases hq
  · cases hq
end
end Go.Proofs.YtmmclabkkigiaaaGreat

namespace Go.Proofs.YtmmclabkkigiaaaGreat
open Go Go.RowKit
def kU8 : Kind Int := ⟨5, 1, fun x => [.int .u8 x], by decide, fun _ => rfl, fun _ => rfl⟩
end Go.Proofs.YtmmclabkkigiaaaGreat

namespace Go.Proofs.YtmmclabkkigiaaaGreat
open Go Go.RowKit
section
variable {M : Bool} {P : Program} {ops : Array Oper} {i : Nat} {s : Fs} {w w' : World} {K : Fs → World → Prop}
theorem ops_appendGrow {B : Nat} {w0 : World} {l0 : List Nat} {R : List Asn} {e : TypeId} {ad ad' : Addr} {n c m c' size bytes : Nat} {olds news : List Value}
    (hs : St B w0 l0 w R) (hq : appQ P ops i s e = some ((some ad, n, c), (some ad', m, c'), size, bytes))
    (hlo : olds.length = n * size) (holds : ∀ j v, olds[j]? = some v → w.cell? (ad.add j) = some v) (hl : news.length = m * size) (hnews : ∀ j v, news[j]? = some v → w.cell? (ad'.add j) = some v)
    (hg : c < n + m) (h63 : n + m ≤ maxLen) (hbytes : (n + m) * bytes ≤ 140737488355328)
    (hk : ∀ a'' c'' w', St B w0 l0 w' (rowA e size (.slice a'' (n + m) c'') (n + m) (olds ++ news) :: R) → OpsAt M P ops (i + 1) (putS s (dstOf ops i) (.slice a'' (n + m) c'')) w' K) : OpsAt M P ops i s w K := by
  unfold appQ at hq
  split at hq
  · rename_i o ho
    split at hq
    · rename_i x y t t' hop
      split at hq
      · rename_i e' f a1 n1 c1 a2 n2 c2 hu hi hx hy
        split at hq
        · rename_i z hz1 hz2 hz
          split at hq
          · rename_i hz3 hz4
            simp only [Option.some.injEq, Prod.mk.injEq] at hq
            obtain ⟨⟨rfl, rfl, rfl⟩, ⟨rfl, rfl, rfl⟩, rfl, rfl⟩ := hq
            obtain rfl := of_decide_eq_true hz1
            obtain rfl := of_decide_eq_true hz2
            have hzs := of_decide_eq_true hz3
            have hB := hs.size
            have hr := run_append_grow (P := P) w t o.type e' f z hu hi hz ad n1 c1 olds hlo holds ad' n2 c2 news hl hnews hg (by simp only [maxLen] at h63; omega) (growslice_fits (by omega) hbytes)
            have hge := grownCap_ge w (n1 + n2) c1 e'
            have hcm : grownCap w (n1 + n2) c1 e' ≤ maxLen := grownCap_le_maxLen w (n1 + n2) c1 e' h63
            have hlen : (olds ++ news).length = (n1 + n2) * f.size := by rw [List.length_append, hlo, hl, Nat.add_mul]
            refine ops_runs ho (v := .slice (some ⟨w.heap.size, 0, none⟩) (n1 + n2) (grownCap w (n1 + n2) c1 e')) (w' := w.drew.alloc (.cells (olds.toArray ++ news.toArray ++ Builtin.zeroCells z.cells (grownCap w (n1 + n2) c1 e' - (n1 + n2))) e')) ?_ (hk _ _ _ ?_)
            · simp only [execOp, hop, resolve, invoke, builtin, Sem.run_bind, Sem.run_pure, Result.andThen_ok, List.map_toArray, List.map_cons, List.map_nil, hx, hy, hr]
            · have hsd : St B w0 l0 w.drew R := hs.drew
              refine St.step0 (post := [rowA e' f.size (.slice (some ⟨w.heap.size, 0, none⟩) (n1 + n2) (grownCap w (n1 + n2) c1 e')) (n1 + n2) (olds ++ news)]) hsd
                ⟨[w.heap.size], ⟨[w.heap.size], [], ⟨⟨hlen, .inr ⟨w.heap.size, _, _, rfl, hB, heap_alloc_new w.drew _, hge, hcm, ?_, ?_⟩⟩, rfl⟩, fun b => by simp, fun b _ => by simp, by simp⟩, ?_⟩
              · simp only [Array.size_append, List.size_toArray, size_zeroCells, hzs, hlo, hl, ← Nat.add_mul]
                congr 1
                omega
              · simp only [Array.toList_append, List.append_assoc]
                rw [← List.append_assoc, ← hlen]
                exact List.take_left
              · refine ⟨rfl, rfl, rfl, by simp, fun b hb _ => Below.heap_alloc _ _ _ hb, fun b hb => .inr ?_⟩
                simp only [List.mem_singleton] at hb
                subst hb
                exact Nat.le_refl _
          · cases hq
        · cases hq
      · cases hq
    · cases hq
  · cases hq
end
end Go.Proofs.YtmmclabkkigiaaaGreat

namespace Go.Proofs.YtmmclabkkigiaaaGreat
open Go Go.RowKit
section
variable {α : Type} (Kd : Kind α)
end
section
variable {M : Bool} {P : Program} {ops : Array Oper} {i : Nat} {s : Fs} {w w' : World} {K : Fs → World → Prop}
theorem le_take_len {α : Type} {xs : List α} {m : Nat} (h : m ≤ xs.length) : m = (xs.take m).length := by rw [List.length_take, Nat.min_eq_left h]
theorem runs_prefixL {a : Option Addr} {n c size : Nat} {z : Int} (m n' : Nat) (e : m = n') (hz : z = (m : Int)) (h : m ≤ n) (h2 : n ≤ c) (hq : sliceQ P ops i s = some ((a, n, c), none, some z, size)) : RunsTo P ops i s w (.slice a n' c) w := by
  subst e
  exact runs_prefix m hz h h2 hq
theorem runs_suffix {a : Option Addr} {n c size : Nat} {z : Int} (k : Nat) (hz : z = (k : Int)) (h1 : k ≤ n) (h2 : n ≤ c) (h3 : k < c) (ha : ∃ ad, a = some ad) (hq : sliceQ P ops i s = some ((a, n, c), some z, none, size)) : RunsTo P ops i s w (.slice (some (adr a (k * size))) (n - k) (c - k)) w := by
  subst hz
  obtain ⟨ad, rfl⟩ := ha
  have h := runs_slice (P := P) (ops := ops) (i := i) (s := s) (w := w) (size := size) (a := some ad) (n := n) (c := c) (lo := some (k : Int)) (hi := none) k n (.inl rfl) (.inr ⟨rfl, rfl⟩) h1 h2 hq
  rw [if_neg (by omega)] at h
  exact h
end
end Go.Proofs.YtmmclabkkigiaaaGreat

namespace Go.Proofs.YtmmclabkkigiaaaGreat
open Go Go.RowKit
section
variable {M : Bool} {P : Program} {ops : Array Oper} {i : Nat} {s : Fs} {w w' : World} {K : Fs → World → Prop}
theorem resD_three {P : Program} {s : Fs} {w : World} {fn : Func} {r q p : ResultVar} {v u z : Value} (hr : fn.results = #[r, q, p]) (h : ResAt P s w r v) (h' : ResAt P s w q u) (h'' : ResAt P s w p z) : (resD fn s).run P w = .ok (.tuple #[v, u, z]) w := by
  have h1 := h.run
  have h2 := h'.run
  have h3 := h''.run
  unfold resD
  rw [hr]
  simp [Sem.run_bind, h1, h2, h3]
theorem kU8_cells (xs : List Int) : kU8.cells xs = xs.map (Value.int .u8) := by
  induction xs with
  | nil => rfl
  | cons x xs ih => rw [Kind.cells_cons, ih]; rfl
def strConvQ (P : Program) (ops : Array Oper) (i : Nat) (s : Fs) : Option (Option Addr × Nat × Nat) :=
  match opQ ops i s with
  | some o => match o.op with
    | .convert src dst x => match P.underlying src, P.underlying dst, evS s x with
      | some (.slice e), some .string, .slice a n c => match P.underlying e with
        | some (.int .u8) => some (a, n, c)
        | _ => none
      | _, _, _ => none
    | _ => none
  | none => none
theorem runs_bytesStr {a : Option Addr} {n c : Nat} {xs : List Int} (hc : CellsAt a (kU8.cells xs) w) (hn : n = xs.length) (hq : strConvQ P ops i s = some (a, n, c)) : RunsTo P ops i s w (.string (strOfNums xs)) w := by
  subst hn
  unfold strConvQ at hq
  split at hq
  · rename_i o ho
    split at hq
    · rename_i src dst x hop
      refine ⟨_, ho, ?_⟩
      split at hq
      · rename_i e a' n' c' hsrc hdst hx
        split at hq
        · rename_i he
          simp only [Option.some.injEq, Prod.mk.injEq] at hq
          obtain ⟨rfl, rfl, rfl⟩ := hq
          have hr : (convert src dst (.slice a' xs.length c')).run P w = .ok (.string (strOfNums xs)) w := by
            cases a' with
            | none =>
              have h0 := cells_none kU8 hc
              subst h0
              exact run_convert_bytes_nil w src e hsrc he _ _ dst hdst
            | some ad =>
              have hl : (loadCells ad xs.length).run P w = .ok (xs.map (Value.int .u8)).toArray w := by
                have h := run_loadCells_list (P := P) w ad (xs.map (Value.int .u8)) (fun j v hj => hc j v (by rw [kU8_cells]; exact hj))
                simpa using h
              rw [run_convert_bytes_string w src dst e _ _ _ hsrc he hdst, run_bytesToString w _ _ _ xs hl, foldl_push_bytes]
              simp [strOfNums, ByteArray.empty, ByteArray.emptyWithCapacity]
              rfl
          simp only [execOp, hop, hx, Sem.run_bind, Result.andThen_ok, hr, Sem.run_pure]
        · cases hq
      · cases hq
    · cases hq
  · cases hq
end
end Go.Proofs.YtmmclabkkigiaaaGreat

namespace Go.Proofs.YtmmclabkkigiaaaGreat
open Go Go.RowKit
@[simp] theorem beq_bytes (a b : ByteArray) : ((a == b) = true) ↔ a = b := by
  constructor
  · intro h
    cases a with | mk x => cases b with | mk y =>
    have : (x == y) = true := h
    rw [beq_iff_eq.1 this]
  · rintro rfl
    cases a with | mk x => exact (show (x == x) = true from beq_self_eq_true x)
@[simp] theorem beq_bytes_false (a b : ByteArray) : ((a == b) = false) ↔ ¬ (a = b) := by
  rw [← beq_bytes, Bool.not_eq_true]
section
variable {P : Program} {ops : Array Oper} {i : Nat} {s : Fs} {w : World}
def sbyte (s : ByteArray) (k : Int) : Int := (((s[k.toNat]?).getD 0).toNat : Int)
theorem sbyte_range (s : ByteArray) (k : Int) : 0 ≤ sbyte s k ∧ sbyte s k ≤ 255 := by
  unfold sbyte
  have := (((s[k.toNat]?).getD 0)).toNat_lt
  omega
def strIdxQ (P : Program) (ops : Array Oper) (i : Nat) (s : Fs) : Option (ByteArray × Int) :=
  match opQ ops i s with
  | some o => match o.op with
    | .index t x y => match P.underlying t, evS s x, evS s y with
      | some .string, .string b, .int _ k => some (b, k)
      | _, _, _ => none
    | _ => none
  | none => none
theorem runs_strIdx {b : ByteArray} {k : Int} (hk : 0 ≤ k ∧ k < (b.size : Int)) (hq : strIdxQ P ops i s = some (b, k)) : RunsTo P ops i s w (.int .u8 (sbyte b k)) w := by
  unfold strIdxQ at hq
  split at hq
  · rename_i o ho
    split at hq
    · rename_i t x y hop
      refine ⟨_, ho, ?_⟩
      split at hq
      · rename_i b' kk k' hu hx hy
        simp only [Option.some.injEq, Prod.mk.injEq] at hq
        obtain ⟨rfl, rfl⟩ := hq
        have hun := run_underlying (P := P) hu w
        have hn : k'.toNat < b'.size := by omega
        have hg : b'[k'.toNat]? = some b'[k'.toNat] := getElem?_pos b' _ hn
        simp only [execOp, hop, hx, hy, Instr.index, asIntOf, Sem.run_bind, Sem.run_pure, Result.andThen_ok, hun, if_pos hk.1, hg, sbyte, Option.getD_some]
      · cases hq
    · cases hq
  · cases hq
end
section
variable {α : Type} (K : Kind α) {M : Bool} {P : Program} {ops : Array Oper} {i : Nat} {s : Fs} {w : World} {Q : Fs → World → Prop} {B : Nat} {w0 : World} {l0 : List Nat} {H R : List Asn}
theorem ops_appendKn {bytes : Nat} {a a' : Option Addr} {c c' n n' : Nat} {l m : List α} (hs : St B w0 l0 w (K.row a c l :: R)) (hn : n = l.length) (hn' : n' = m.length) (hq : appQ P ops i s K.e = some ((a, n, c), (a', n', c'), K.size, bytes))
    (hc : a' = none → c' = 0) (hm : CellsAt a' (K.cells m) w) (h63 : l.length + m.length ≤ maxLen) (hb : (l.length + m.length) * bytes ≤ 140737488355328)
    (hk : ∀ a'' c'' w', St B w0 l0 w' (K.row a'' c'' (l ++ m) :: R) → OpsAt M P ops (i + 1) (putS s (dstOf ops i) (.slice a'' (l ++ m).length c'')) w' Q) : OpsAt M P ops i s w Q := by
  subst hn hn'
  exact ops_appendK K hs hq hc hm h63 hb hk
end
end Go.Proofs.YtmmclabkkigiaaaGreat

namespace Go.Proofs.YtmmclabkkigiaaaGreat
open Go Go.RowKit
def strNums (s : ByteArray) : List Int := s.data.toList.map fun b => (b.toNat : Int)
theorem strNums_len (s : ByteArray) : (strNums s).length = s.size := by simp [strNums]
section
variable {M : Bool} {P : Program} {ops : Array Oper} {i : Nat} {s : Fs} {w : World} {K : Fs → World → Prop}
def strBytesQ (P : Program) (ops : Array Oper) (i : Nat) (s : Fs) : Option (ByteArray × TypeId) :=
  match opQ ops i s with
  | some o => match o.op with
    | .convert src dst x => match P.underlying src, P.underlying dst, evS s x with
      | some .string, some (.slice e), .string b => match P.underlying e with
        | some (.int .u8) => some (b, e)
        | _ => none
      | _, _, _ => none
    | _ => none
  | none => none
theorem ops_strBytes {B : Nat} {w0 : World} {l0 : List Nat} {R : List Asn} {b : ByteArray} {e : TypeId} (hs : St B w0 l0 w R) (hq : strBytesQ P ops i s = some (b, e))
    (hk : ∀ (n c : Nat) (C : Array Value) (w' : World), b.size ≤ c → (∀ j, j < b.size → C[j]? = some (.int .u8 ((strNums b).getD j 0))) → St B w0 l0 w' (blk n (.cells C e (C.size, C.size + 1)) :: R) →
      OpsAt M P ops (i + 1) (putS s (dstOf ops i) (.slice (some ⟨n, 0, none⟩) b.size c)) w' K) : OpsAt M P ops i s w K := by
  unfold strBytesQ at hq
  split at hq
  · rename_i o ho
    split at hq
    · rename_i src dst x hop
      split at hq
      · rename_i e' b' hsrc hdst hx
        split at hq
        · rename_i he
          simp only [Option.some.injEq, Prod.mk.injEq] at hq
          obtain ⟨rfl, rfl⟩ := hq
          have hr := Lib.run_convert_string_bytes (P := P) w src dst e' b' hsrc hdst he
          have hB := hs.size
          refine ops_runs ho (v := .slice (some ⟨w.heap.size, 0, none⟩) b'.size (grownCap w b'.size 0 e')) (w' := Lib.bytesWorld w e' b') ?_ (hk _ _ (Lib.bytesCells w e' b') _ ?_ ?_ ?_)
          · simp only [execOp, hop, hx, Sem.run_bind, Result.andThen_ok, Sem.run_pure, hr]
          · exact grownCap_ge w b'.size 0 e'
          · intro j hj
            have := Lib.bytesWorld_cell w e' b' j hj
            have hn := Lib.bytesWorld_at_new w e' b'
            simp only [World.cell?, hn] at this
            simpa [strNums, List.getD, hj] using this
          · refine St.step0 (post := [blk w.heap.size (.cells (Lib.bytesCells w e' b') e' ((Lib.bytesCells w e' b').size, (Lib.bytesCells w e' b').size + 1))]) hs ⟨[w.heap.size], ⟨[w.heap.size], [], ⟨hB, Lib.bytesWorld_at_new w e' b', rfl⟩, fun b => by simp, fun b _ => by simp, by simp⟩, ?_⟩
            refine ⟨by simp [Lib.bytesWorld, World.freeze, World.alloc, World.drew, -World.alloc_eq, -World.drew_eq], by simp [Lib.bytesWorld, World.freeze, World.alloc, World.drew, -World.alloc_eq, -World.drew_eq], by simp [Lib.bytesWorld, World.freeze, World.alloc, World.drew, -World.alloc_eq, -World.drew_eq], by rw [Lib.bytesWorld_size]; omega, fun b hb _ => Lib.bytesWorld_at_old w e' b' b hb, fun b hb => .inr ?_⟩
            simp only [List.mem_singleton] at hb
            omega
        · cases hq
      · cases hq
    · cases hq
  · cases hq
end
def partN (n k : Nat) : Nat := if n - 8 * k < 8 then n - 8 * k else 8
theorem part_pos {n k : Nat} (h : 8 * k < n) : 0 < partN n k ∧ partN n k ≤ 8 ∧ 8 * k + partN n k ≤ n ∧ (8 * k + partN n k = n ∨ partN n k = 8) := by
  unfold partN; split <;> omega
end Go.Proofs.YtmmclabkkigiaaaGreat

namespace Go.Proofs.YtmmclabkkigiaaaGreat
open Go Go.RowKit
def need {α : Type} (p : Prop) [Decidable p] (x : Option α) : Option α := if p then x else none
theorem need_some {α : Type} {p : Prop} {inst : Decidable p} {x : Option α} {r : α} (h : @need α p inst x = some r) : p ∧ x = some r := by
  unfold need at h
  split at h
  · rename_i hp; exact ⟨hp, h⟩
  · cases h
theorem need_of {α : Type} {p : Prop} {inst : Decidable p} {x y : Option α} (hp : p) (h : x = y) : @need α p inst x = y := by
  unfold need; rw [if_pos hp]; exact h
theorem ite_yes {α : Type} {p : Prop} {inst : Decidable p} {a b x : α} (e : @ite α p inst a b = x) (h : p) : a = x := by rw [if_pos h] at e; exact e
theorem ite_no {α : Type} {p : Prop} {inst : Decidable p} {a b x : α} (e : @ite α p inst a b = x) (h : ¬ p) : b = x := by rw [if_neg h] at e; exact e
theorem bind_some {α β : Type} {o : Option α} {f : α → Option β} {r : β} (h : o.bind f = some r) : ∃ y, o = some y ∧ f y = some r := by
  cases o with
  | none => cases h
  | some y => exact ⟨y, rfl, h⟩
theorem bind_of {α β : Type} {o : Option α} {f : α → Option β} {y : α} {r : Option β} (h : o = some y) (h2 : f y = r) : o.bind f = r := by
  subst h; exact h2
def iter {σ ρ : Type} (body : (σ → Option ρ) → σ → Option ρ) : Nat → σ → Option ρ
  | 0, _ => none
  | n + 1, s => body (iter body n) s
def FUEL : Nat := 18446744073709551616
theorem iter_run {σ ρ : Type} {body : (σ → Option ρ) → σ → Option ρ} {r : ρ} (I : σ → Prop) (μ : σ → Nat) (step : ∀ (k : σ → Option ρ) (s : σ), I s → (∀ s', I s' → μ s' < μ s → k s' = some r) → body k s = some r) :
    ∀ (n : Nat) (s : σ), I s → μ s < n → iter body n s = some r := by
  intro n
  induction n with
  | zero => intro s _ h; omega
  | succ n ih =>
    intro s hs hm
    exact step _ s hs fun s' hs' hlt => ih s' hs' (by omega)
def Ok {ρ : Type} (R : ρ → Prop) (x : Option ρ) : Prop := ∃ r, x = some r ∧ R r
section
variable {α ρ σ : Type} {R : ρ → Prop}
theorem Ok.some {r : ρ} (h : R r) : Ok R (some r) := ⟨r, rfl, h⟩
theorem Ok.need {p : Prop} {inst : Decidable p} {x : Option ρ} (hp : p) (h : Ok R x) : Ok R (@Go.Proofs.YtmmclabkkigiaaaGreat.need ρ p inst x) := by
  obtain ⟨r, hx, hr⟩ := h
  exact ⟨r, need_of hp hx, hr⟩
theorem Ok.bind {S : α → Prop} {o : Option α} {f : α → Option ρ} (h : Ok S o) (hf : ∀ y, S y → Ok R (f y)) : Ok R (o.bind f) := by
  obtain ⟨y, rfl, hy⟩ := h
  exact hf y hy
theorem Ok.name {e : α} {f : α → Option ρ} (hf : ∀ y, y = e → Ok R (f y)) : Ok R ((Option.some e).bind f) := hf e rfl
theorem Ok.ite {p : Prop} {inst : Decidable p} {a b : Option ρ} (h1 : p → Ok R a) (h2 : ¬ p → Ok R b) : Ok R (@_root_.ite (Option ρ) p inst a b) := by
  by_cases h : p
  · rw [if_pos h]; exact h1 h
  · rw [if_neg h]; exact h2 h
theorem Ok.yes {p : Prop} {inst : Decidable p} {a b : Option ρ} (h : p) (h1 : Ok R a) : Ok R (@_root_.ite (Option ρ) p inst a b) := by rw [if_pos h]; exact h1
theorem Ok.no {p : Prop} {inst : Decidable p} {a b : Option ρ} (h : ¬ p) (h1 : Ok R b) : Ok R (@_root_.ite (Option ρ) p inst a b) := by rw [if_neg h]; exact h1
theorem Ok.mono {R' : ρ → Prop} {x : Option ρ} (h : Ok R x) (hr : ∀ r, R r → R' r) : Ok R' x := let ⟨r, h1, h2⟩ := h; ⟨r, h1, hr r h2⟩
theorem Ok.true {x : Option Bool} (h : Ok (· = true) x) : x = Option.some true := by
  obtain ⟨r, h1, h2⟩ := h
  rw [h1, h2]
theorem Ok.iter {body : (σ → Option ρ) → σ → Option ρ} (I : σ → Prop) (μ : σ → Nat) (step : ∀ (k : σ → Option ρ) (s : σ), I s → (∀ s', I s' → μ s' < μ s → Ok R (k s')) → Ok R (body k s)) :
    ∀ (n : Nat) (s : σ), I s → μ s < n → Ok R (Go.Proofs.YtmmclabkkigiaaaGreat.iter body n s) := by
  intro n
  induction n with
  | zero => intro s _ h; omega
  | succ n ih =>
    intro s hs hm
    exact step _ s hs fun s' hs' hlt => ih s' hs' (by omega)
end
theorem fuel_lt {n : Nat} (h : n < 18446744073709551616) : n < FUEL := h
section
variable {P : Program} {c x y : Code} {s : Fs} {w : World} {Q : Exit → Fs → World → Prop}
theorem W.seq_join (J : Fs → World → Prop) (hy : ∀ s w, J s w → W P y s w Q) (hx : W P x s w (seqQ J Q)) : W P (.seq x y) s w Q := by
  refine W.seq fun K hK => hx.mono ?_
  intro e s w h
  cases e with
  | normal => exact hK _ _ (hy _ _ h)
  | _ => exact h
theorem W.norm {n : Nat} {l : List (Nat × Value)} (h : ((s.n, s.r, s.d), l.map fun p => s.f p.1) = ((n, none, []), l.map (·.2))) (hk : ∀ us, W P c (slots n l us) w Q) : W P c s w Q := by
  obtain ⟨us, rfl⟩ := slots_intro s h
  exact hk us
theorem W.loop_iter {G σ ρ : Type} {body : (σ → Option ρ) → σ → Option ρ} {r : ρ} {n : Nat} (T : G → σ) (J : G → Fs → World → Prop) (g : G) (h0 : J g s w) (hm : iter body n (T g) = some r)
    (round : ∀ k : σ → Option ρ, (∀ g s w, J g s w → k (T g) = some r → LoopAt P c Q s w) → ∀ g s w, J g s w → body k (T g) = some r → W P c s w (seqQ (fun s' w' => LoopAt P c Q s' w') Q)) : W P (.loop c) s w Q := by
  refine W.loop_start ?_
  have key : ∀ (n : Nat) (g : G) (s : Fs) (w : World), J g s w → iter body n (T g) = some r → LoopAt P c Q s w := by
    intro n
    induction n with
    | zero => intro g s w _ h; cases h
    | succ n ih =>
      intro g s w hj h
      exact loopAt_round (round _ ih g s w hj h)
  exact key n g s w h0 hm
end
theorem wrap_u8_mod (z : Int) : IntKind.u8.wrap z = z % 256 := by
  have e : (2 : Int) ^ IntKind.u8.bits = 256 := by decide
  unfold IntKind.wrap
  simp only [e, IntKind.signed, Bool.false_and, Bool.false_eq_true, if_false]
theorem nat_of {z : Int} (h : 0 ≤ z) : z = ((z.toNat : Nat) : Int) := (Int.toNat_of_nonneg h).symm
theorem lt_toNat {z : Int} {n : Nat} (h : 0 ≤ z ∧ z < (n : Int)) : z.toNat < n := by omega
theorem le_toNat {z : Int} {n : Nat} (h : 0 ≤ z ∧ z ≤ (n : Int)) : z.toNat ≤ n := by omega
theorem some_inj {α : Type} {a b : α} (h : some a = some b) : a = b := Option.some.inj h
abbrev elem {α : Type} (l : List α) (z : Int) (d : α) : α := l.getD z.toNat d
end Go.Proofs.YtmmclabkkigiaaaGreat

namespace Go.Proofs.YtmmclabkkigiaaaGreat
open Go Go.RowKit
section
variable {M : Bool} {P : Program} {ops : Array Oper} {i : Nat} {s : Fs} {w : World} {K : Fs → World → Prop} {Q : Exit → Fs → World → Prop}
theorem zE (n : Nat) (hk : K (runS P ops n i s w) w) (h : (runN P ops n i s w).map (·.2) = some w := by kernel_rfl) (hd : ops.size = i + n := by kernel_rfl) : OpsAt M P ops i s w K := ops_run n h (ops_done hd hk)
theorem zD (hk : K s w) (hd : ops.size = i := by kernel_rfl) : OpsAt M P ops i s w K := ops_done hd hk
theorem zR (n : Nat) (hk : OpsAt M P ops (i + n) (runS P ops n i s w) w K) (h : (runN P ops n i s w).map (·.2) = some w := by kernel_rfl) : OpsAt M P ops i s w K := ops_run n h hk
theorem zS (j : Nat) {b b' : Bool} (hb : b = b') (hk : OpsAt M P ops i (s.set j (.bool b')) w K) (h : s.f j = .bool b := by kernel_rfl) : OpsAt M P ops i s w K := ops_set j (eq_bool_of h hb) hk
theorem zI {k : IntKind} (x : Int) (hb : k.wrap x = x) (hk : OpsAt M P ops (i + 1) (putS s (dstOf ops i) (.int k x)) w K) (h : valQ P ops i s w = some (.int k (k.wrap x), w) := by kernel_rfl) : OpsAt M P ops i s w K := ops_val h (congrArg (Value.int k) hb) hk
theorem zL (ad : Addr) (v : Value) (hc : w.cell? ad = some v) (hk : OpsAt M P ops (i + 1) (putS s (dstOf ops i) v) w K) (h : loadQ P ops i s = some ad := by kernel_rfl) : OpsAt M P ops i s w K := ops_R (runs_load h hc) hk
theorem zN {B : Nat} {w0 : World} {l0 : List Nat} {R : List Asn} (cs : List Value) (t : TypeId) (hs : St B w0 l0 w R) (hk : ∀ b w', St B w0 l0 w' (blk b (.cells cs.toArray t (0, 0)) :: R) → OpsAt M P ops (i + 1) (putS s (dstOf ops i) (.pointer (some ⟨b, 0, none⟩))) w' K)
    (hq : valQ P ops i s w = some ((fun b => .pointer (some ⟨b, 0, none⟩)) w.heap.size, w.alloc (.cells cs.toArray t (0, 0))) := by kernel_rfl) : OpsAt M P ops i s w K := ops_new (fun b => .pointer (some ⟨b, 0, none⟩)) _ hs hq hk
theorem W.sr {id : Nat} {ops : Array Oper} {y : Code} (h : ∀ K : Fs → World → Prop, (∀ s w, W P y s w Q → K s w) → OpsAt true P ops 0 s w (seqQ K Q .normal)) : W P (.seq (.region id ops false) y) s w Q := W.seq fun K hK => W.region (h K hK)
end
theorem iY {α : Type} {p : Prop} {d inst : Decidable p} {a b x : α} (e : @ite α p inst a b = x) (h : @decide p d = true) : p ∧ a = x := ⟨@of_decide_eq_true p d h, ite_yes e (@of_decide_eq_true p d h)⟩
theorem iN {α : Type} {p : Prop} {d inst : Decidable p} {a b x : α} (e : @ite α p inst a b = x) (h : @decide p d = false) : ¬ p ∧ b = x := ⟨@of_decide_eq_false p d h, ite_no e (@of_decide_eq_false p d h)⟩
section
variable {M : Bool} {P : Program} {ops : Array Oper} {i : Nat} {s : Fs} {w : World} {K : Fs → World → Prop} {B : Nat} {w0 : World} {l0 : List Nat} {R : List Asn} {f : FuncId} {args : Array Value} {V : Value} {a0 a1 a2 a3 b0 b1 b2 b3 : Asn}
theorem zC00 (hs : St B w0 l0 w R) (hc : Spec P f args B w [] (fun v H' => v = V ∧ H' = [])) (hk : ∀ w', St B w0 l0 w' R → OpsAt M P ops (i + 1) (putS s (dstOf ops i) V) w' K) (hq : callQ P ops i s w = some (f, args, w) := by kernel_rfl) : OpsAt M P ops i s w K :=
  ops_call (pre := []) hs hq hc fun v H' w' h h' => by obtain ⟨rfl, rfl⟩ := h; exact hk w' h'
theorem zC11 (hs : St B w0 l0 w (a0 :: R)) (hc : Spec P f args B w [a0] (fun v H' => v = V ∧ H' = [b0])) (hk : ∀ w', St B w0 l0 w' (b0 :: R) → OpsAt M P ops (i + 1) (putS s (dstOf ops i) V) w' K) (hq : callQ P ops i s w = some (f, args, w) := by kernel_rfl) : OpsAt M P ops i s w K :=
  ops_call (pre := [a0]) hs hq hc fun v H' w' h h' => by obtain ⟨rfl, rfl⟩ := h; exact hk w' h'
theorem zC21 (hs : St B w0 l0 w (a0 :: a1 :: R)) (hc : Spec P f args B w [a0, a1] (fun v H' => v = V ∧ H' = [b0])) (hk : ∀ w', St B w0 l0 w' (b0 :: R) → OpsAt M P ops (i + 1) (putS s (dstOf ops i) V) w' K) (hq : callQ P ops i s w = some (f, args, w) := by kernel_rfl) : OpsAt M P ops i s w K :=
  ops_call (pre := [a0, a1]) hs hq hc fun v H' w' h h' => by obtain ⟨rfl, rfl⟩ := h; exact hk w' h'
theorem zC22 (hs : St B w0 l0 w (a0 :: a1 :: R)) (hc : Spec P f args B w [a0, a1] (fun v H' => v = V ∧ H' = [b0, b1])) (hk : ∀ w', St B w0 l0 w' (b0 :: b1 :: R) → OpsAt M P ops (i + 1) (putS s (dstOf ops i) V) w' K) (hq : callQ P ops i s w = some (f, args, w) := by kernel_rfl) : OpsAt M P ops i s w K :=
  ops_call (pre := [a0, a1]) hs hq hc fun v H' w' h h' => by obtain ⟨rfl, rfl⟩ := h; exact hk w' h'
end
abbrev zi (x : Int) : Value := .int .i64 x
abbrev zu (x : Int) : Value := .int .u64 x
abbrev zp (b : Nat) : Value := .pointer (some ⟨b, 0, none⟩)
abbrev zb (b : Nat) (t : TypeId) (l : List Value) : Asn := blk b (.cells l.toArray t (0, 0))
section
variable {M : Bool} {P : Program} {ops : Array Oper} {i : Nat} {s : Fs} {w : World} {K : Fs → World → Prop} {B : Nat} {w0 : World} {l0 : List Nat} {R : List Asn} {b : Nat} {t : TypeId} {cs : List Value}
theorem zT (off : Nat) (vs cs' : List Value) (hs : St B w0 l0 w (blk b (.cells cs.toArray t (0, 0)) :: R)) (hk : ∀ w', St B w0 l0 w' (blk b (.cells cs'.toArray t (0, 0)) :: R) → OpsAt M P ops (i + 1) (putS s (dstOf ops i) undef) w' K)
    (hq : storeQ P ops i s = some (⟨b, off, none⟩, vs) := by kernel_rfl) (hl : off + vs.length ≤ cs.length := by simp) (hv : vs.all Value.oneCell' = true := by rfl) (he : writeAt cs off vs = cs' := by rfl) : OpsAt M P ops i s w K := by
  subst he
  exact ops_store hs hq hl hv hk
theorem zG (ad : Addr) (vs : List Value) (hc : ∀ j v, vs[j]? = some v → w.cell? (ad.add j) = some v) (hk : OpsAt M P ops (i + 1) (putS s (dstOf ops i) (.agg vs.toArray)) w K) (hq : loadAggQ P ops i s = some (ad, vs.length) := by kernel_rfl) : OpsAt M P ops i s w K := ops_R (runs_loadAgg hq hc) hk
end
section
variable {P : Program} {ops : Array Oper} {T : List (Nat × Nat)} {S : World → Prop} {fuel L : Nat} {s : Fs} {w : World} {K : Fs → World → Prop}
theorem zA (v : Value) (i : Nat) (hS : S w) (h : AnyAt P ops T S fuel (Nat.lor L (Nat.shiftLeft 1 i)) (putS s (dstOf ops i) v) w K) (hb : takeB T i L = true := by kernel_rfl) (hr : ∀ w', valVQ P ops i s w' = some (v, w') := by intro _; kernel_rfl) : AnyAt P ops T S (fuel + 1) L s w K := any_val i hb hr rfl hS h
theorem zB (i : Nat) (ad : Addr) (v : Value) (hc : ∀ w', S w' → w'.cell? ad = some v) (hS : S w) (h : AnyAt P ops T S fuel (Nat.lor L (Nat.shiftLeft 1 i)) (putS s (dstOf ops i) v) w K) (hb : takeB T i L = true := by kernel_rfl) (hq : loadQ P ops i s = some ad := by kernel_rfl) : AnyAt P ops T S (fuel + 1) L s w K := any_R i hb (fun w' h' => runs_load hq (hc w' h')) hS h
end
end Go.Proofs.YtmmclabkkigiaaaGreat

set_option maxRecDepth 20000
namespace Go.Proofs.YtmmclabkkigiaaaGreat
open Go Go.RowKit
theorem chunk_spec {ba : Option Addr} {bn bc : Nat} (B : Nat) (w : World) : Spec Tryz.prog 117 #[(.slice ba bn bc), (zi 8)] B w [] (fun v H' => ∃ b1 b2, v = .func (.func 131) #[] #[ptr b1, ptr b2] ∧ H' = [zb b1 149 [(.slice ba bn bc)], zb b2 3 [(zi 8)]]) := by
 refine spec_Q Tryz.func117 rfl fun hs => ?_
 refine W.sr fun K1 hK1 => ?_
 refine zN [(.slice ba bn bc)] 149 hs fun b4 w2 hs3 => ?_
 refine zN [(zi 8)] 3 hs3 fun b7 w5 hs6 => ?_
 refine zE 1 (hK1 _ _ ?_)
 refine W.seq fun K8 hK8 => ?_
 refine W.sr fun K9 hK9 => ?_
 refine zL ⟨b7, 0, none⟩ (zi 8) (hs6.cellAt 0 rfl rfl) ?_
 refine zE 1 (hK9 _ _ ?_)
 refine W.cond_false false (by kernel_rfl) rfl ?_
 refine W.skip ?_
 refine hK8 _ _ ?_
 refine W.sr fun K10 hK10 => ?_
 refine zE 2 (hK10 _ _ ?_)
 refine W.ret ?_
 have hs11 := St.f1 hs6
 refine ret_of (.func (.func 131) #[] #[(zp b4), (zp b7)]) (by kernel_rfl) ⟨_, ⟨b4, b7, rfl, rfl⟩, hs11⟩
theorem back_spec {ba : Option Addr} {bn bc : Nat} (B : Nat) (w : World) : Spec Tryz.prog 118 #[(.slice ba bn bc)] B w [] (fun v H' => ∃ b1, v = .func (.func 132) #[] #[ptr b1] ∧ H' = [zb b1 149 [(.slice ba bn bc)]]) := by
 refine spec_Q Tryz.func118 rfl fun hs => ?_
 refine W.sr fun K1 hK1 => ?_
 refine zN [(.slice ba bn bc)] 149 hs fun b4 w2 hs3 => ?_
 refine zE 1 (hK1 _ _ ?_)
 refine W.sr fun K5 hK5 => ?_
 refine zE 2 (hK5 _ _ ?_)
 refine W.ret ?_
 refine ret_of (.func (.func 132) #[] #[(zp b4)]) (by kernel_rfl) ⟨_, ⟨b4, rfl, rfl⟩, hs3⟩
end Go.Proofs.YtmmclabkkigiaaaGreat

namespace Go.Proofs.YtmmclabkkigiaaaGreat
open Go Go.RowKit
section
variable {M : Bool} {P : Program} {ops : Array Oper} {i : Nat} {s : Fs} {w w' : World} {K : Fs → World → Prop}
def mkQ (P : Program) (ops : Array Oper) (i : Nat) (s : Fs) : Option (TypeId × Int × Int × Nat × Nat × List Value) :=
  match opQ ops i s with
  | some o => match o.op with
    | .makeSlice t x y => match P.underlying t, evS s x, evS s y with
      | some (.slice e), .int _ l, .int _ c => match P.info? e with
        | some f => match f.zero with
          | some z => some (e, l, c, f.size, f.bytes, z.cells.toList)
          | none => none
        | none => none
      | _, _, _ => none
    | _ => none
  | none => none
theorem flatMap_replicate {α : Type} (n : Nat) (d : α) (f : α → List Value) : (List.replicate n d).flatMap f = (List.replicate n (f d)).flatten := by
  induction n with
  | zero => rfl
  | succ n ih => simp [List.replicate_succ, ih]
theorem made_list (zs : Array Value) (hz : 0 < zs.size) : ∀ n : Nat, (madeCells zs (n * zs.size)).toList = (List.replicate n zs.toList).flatten := by
  intro n
  refine List.ext_getElem ?_ fun j h1 h2 => ?_
  · simp [madeCells]
  · have hj : j < n * zs.size := by simpa [madeCells] using h1
    have hi : j / zs.size < n := Nat.div_lt_of_lt_mul (by rw [Nat.mul_comm]; exact hj)
    have hm : j % zs.size < zs.size := Nat.mod_lt _ hz
    simp only [madeCells, Array.getElem_toList, Array.getElem_map, Array.getElem_range]
    clear h1
    induction n generalizing j with
    | zero => simp at hj
    | succ n ih =>
      simp only [List.replicate_succ, List.flatten_cons]
      by_cases hlt : j < zs.size
      · rw [List.getElem_append_left (by simpa using hlt), Nat.mod_eq_of_lt hlt]
        simp [hlt]
      · rw [List.getElem_append_right (by simpa using hlt)]
        have e1 : (j - zs.toList.length) % zs.size = j % zs.size := by
          rw [Array.length_toList, ← Nat.mod_eq_sub_mod (by omega)]
        have hj' : j - zs.toList.length < n * zs.size := by rw [Array.length_toList]; rw [Nat.add_mul] at hj; omega
        have h := ih (j - zs.toList.length) (by simpa using hj') hj' (Nat.div_lt_of_lt_mul (by rw [Nat.mul_comm]; exact hj')) (Nat.mod_lt _ hz)
        rw [← h, e1]
theorem ops_makeSlice {α : Type} (Kd : Kind α) (d : α) {B : Nat} {w0 : World} {l0 : List Nat} {R : List Asn} {z : Int} (n : Nat) {bytes : Nat} (hz : z = (n : Int)) (hs : St B w0 l0 w R)
    (hq : mkQ P ops i s = some (Kd.e, z, z, Kd.size, bytes, Kd.elem d)) (hb : bytes * n ≤ 281474976710656) (hm : n ≤ maxLen)
    (hk : ∀ b w', St B w0 l0 w' (Kd.row (some ⟨b, 0, none⟩) n (List.replicate n d) :: R) → OpsAt M P ops (i + 1) (putS s (dstOf ops i) (.slice (some ⟨b, 0, none⟩) n n)) w' K) : OpsAt M P ops i s w K := by
  subst hz
  unfold mkQ at hq
  split at hq
  · rename_i o ho
    split at hq
    · rename_i t x y hop
      split at hq
      · rename_i e q1 l q2 c hu hx hy
        split at hq
        · rename_i f hi
          split at hq
          · rename_i zz hzz
            simp only [Option.some.injEq, Prod.mk.injEq] at hq
            obtain ⟨rfl, rfl, rfl, hsz, rfl, hcs⟩ := hq
            have hB := hs.size
            obtain ⟨w', hr, hown, hgr⟩ := run_make_full (P := P) w B t Kd.e f zz Kd.size hu hi hzz hsz q1 q2 n hb hm hB
            have hzs : zz.cells.size = Kd.size := by rw [← Array.length_toList, hcs, Kd.elen]
            have hlist : (madeCells zz.cells (n * Kd.size)).toList = Kd.cells (List.replicate n d) := by
              rw [← hzs, made_list _ (by rw [hzs]; exact Kd.pos), hcs]
              exact (flatMap_replicate n d Kd.elem).symm
            rw [hlist] at hown
            refine ops_runs ho (v := .slice (some ⟨w.heap.size, 0, none⟩) n n) (w' := w') ?_ (hk _ _ ?_)
            · simp only [execOp, hop, hx, hy, Sem.run_bind, Result.andThen_ok, Sem.run_pure, hr]
            · refine St.step0 (post := [Kd.row (some ⟨w.heap.size, 0, none⟩) n (List.replicate n d)]) hs ⟨[w.heap.size], ⟨[w.heap.size], [], ⟨?_, rfl⟩, fun b => by simp, fun b _ => by simp, by simp⟩, ?_⟩
              · simpa using hown
              · refine ⟨hgr.os, hgr.tape, hgr.output, hgr.size, fun b hb _ => hgr.block b hb (by simp), fun b hb => .inr ?_⟩
                simp only [List.mem_singleton] at hb
                subst hb
                exact Nat.le_refl _
          · cases hq
        · cases hq
      · cases hq
    · cases hq
  · cases hq
end
end Go.Proofs.YtmmclabkkigiaaaGreat

namespace Go.Proofs.YtmmclabkkigiaaaGreat
open Go Go.RowKit
section
variable {M : Bool} {P : Program} {ops : Array Oper} {T : List (Nat × Nat)} {S : World → Prop} {s : Fs} {w : World} {K : Fs → World → Prop}
theorem any_step2 (i j : Nat) {fuel : Nat} {L : Nat} (hr : readyM T L = [i, j]) (hi' : (opQ ops i s).isSome = true) (hj' : (opQ ops j s).isSome = true)
    (hi : OpsAt false P (alone ops i) 0 s w (fun s' w' => S w' ∧ AnyAt P ops T S fuel (Nat.lor L (Nat.shiftLeft 1 i)) s' w' K))
    (hj : OpsAt false P (alone ops j) 0 s w (fun s' w' => S w' ∧ AnyAt P ops T S fuel (Nat.lor L (Nat.shiftLeft 1 j)) s' w' K)) : AnyAt P ops T S (fuel + 1) L s w K := by
  refine any_steps [i, j] hr (by simp) ?_ ?_
  · intro k hk
    simp only [List.mem_cons, List.not_mem_nil, or_false] at hk
    rcases hk with rfl | rfl
    · exact hi'
    · exact hj'
  · intro k hk
    simp only [List.mem_cons, List.not_mem_nil, or_false] at hk
    rcases hk with rfl | rfl
    · exact hi
    · exact hj
end
end Go.Proofs.YtmmclabkkigiaaaGreat

set_option maxRecDepth 20000
namespace Go.Proofs.YtmmclabkkigiaaaGreat
open Go Go.RowKit
theorem len_spec {p : Value} {img : List Int} {l : List (Int × Int)} (B : Nat) (w : World) (hv : ViewAt p img l w) : Spec Tryz.prog 64 #[p] B w [] (fun v H' => v = .int .i64 (img.length : Int) ∧ H' = []) := by
 refine spec_Q Tryz.func64 rfl fun hs => ?_
 have hv0 := hv
 obtain ⟨x, rfl, hok, hb, hi, hm, ho, hcap⟩ := hv
 refine W.sr fun K1 hK1 => ?_
 refine zE 1 (hK1 _ _ ?_)
 refine W.seq fun K2 hK2 => ?_
 refine W.sr fun K3 hK3 => ?_
 refine zE 2 (hK3 _ _ ?_)
 refine W.cond_false false (by kernel_rfl) rfl ?_
 refine W.skip ?_
 refine hK2 _ _ ?_
 refine W.sr fun K4 hK4 => ?_
 refine zR 3 ?_
 refine zL ⟨x.b, 0, none⟩ (.slice x.ia img.length x.ic) (cell_of_blk (hs.old hb) rfl) ?_
 refine zE 2 (hK4 _ _ ?_)
 refine W.ret ?_
 refine ret_of (zi (img.length : Int)) (by kernel_rfl) ⟨_, ?_, hs⟩
 exact ⟨rfl, rfl⟩
theorem has_spec {p : Value} {img : List Int} {l : List (Int × Int)} {at_ : Int} (B : Nat) (w : World) (hv : ViewAt p img l w) : Spec Tryz.prog 80 #[p, (zi at_)] B w [] (fun v H' => v = .bool (decide (0 ≤ at_ ∧ at_ < (img.length : Int))) ∧ H' = []) := by
 refine spec_Q Tryz.func80 rfl fun hs => ?_
 have hv0 := hv
 obtain ⟨x, rfl, hok, hb, hi, hm, ho, hcap⟩ := hv
 refine W.sr fun K1 hK1 => ?_
 refine zE 1 (hK1 _ _ ?_)
 refine W.sr fun K2 hK2 => ?_
 refine zR 3 ?_
 rcases Bool.eq_false_or_eq_true (decide (at_ ≥ 0)) with h3 | h3
 ·
  have h3p := of_decide_eq_true h3
  refine zS 7 h3 ?_
  refine zS 6 h3 ?_
  refine zR 2 ?_
  refine zC00 hs (len_spec (hv := (viewAt_old hs hv0)) B _) fun w4 hs6 => ?_
  refine zE 3 (hK2 _ _ ?_)
  refine W.ret ?_
  refine ret_of (.bool (decide (at_ < (img.length : Int)))) (by kernel_rfl) ⟨_, ?_, hs6⟩
  exact ⟨congrArg Value.bool (decide_eq_decide.2 (by omega)), rfl⟩
 have h3p := of_decide_eq_false h3
 refine zS 7 h3 ?_
 refine zS 6 h3 ?_
 refine zE 6 (hK2 _ _ ?_)
 refine W.ret ?_
 refine ret_of (.bool false) (by kernel_rfl) ⟨_, ?_, hs⟩
 exact ⟨congrArg Value.bool (decide_eq_false (by omega)).symm, rfl⟩
theorem get_spec {p : Value} {img : List Int} {l : List (Int × Int)} {at_ : Int} (B : Nat) (w : World) (hv : ViewAt p img l w) : Spec Tryz.prog 43 #[p, (zi at_)] B w [] (fun v H' => v = .int .u64 (vget img l at_) ∧ H' = []) := by
 refine spec_Q Tryz.func43 rfl fun hs => ?_
 have hv0 := hv
 obtain ⟨x, rfl, hok, hb, hi, hm, ho, hcap⟩ := hv
 refine W.sr fun K1 hK1 => ?_
 refine zE 1 (hK1 _ _ ?_)
 refine W.seq fun K2 hK2 => ?_
 refine W.sr fun K3 hK3 => ?_
 refine zR 2 ?_
 refine zC00 hs (has_spec (at_ := at_) (hv := (viewAt_old hs hv0)) B _) fun w4 hs6 => ?_
 refine zE 1 (hK3 _ _ ?_)
 refine W.cond (!(decide (0 ≤ at_ ∧ at_ < (img.length : Int)))) (by kernel_rfl) (fun h7 => ?_) (fun h7 => ?_)
 ·
  have h7p : ¬ (0 ≤ at_ ∧ at_ < (img.length : Int)) := of_decide_eq_false (bnot_true h7)
  refine W.sr fun K8 hK8 => ?_
  refine zE 1 (hK8 _ _ ?_)
  refine W.ret (ret_seq ?_)
  refine ret_of (zu 0) (by kernel_rfl) ⟨_, ?_, hs6⟩
  exact ⟨by simp only [vget]; rw [if_neg (by omega)], rfl⟩
 have h7p : 0 ≤ at_ ∧ at_ < (img.length : Int) := of_decide_eq_true (bnot_false h7)
 refine W.skip ?_
 refine hK2 _ _ ?_
 refine W.seq fun K9 hK9 => ?_
 refine W.sr fun K10 hK10 => ?_
 refine zR 3 ?_
 refine zL ⟨x.b, 1, none⟩ (.map (some x.mb)) (cell_of_blk (hs6.old hb) rfl) ?_
 refine zR 1 ?_
 refine ops_R (v := (.tuple #[(zu ((vlook l at_).getD 0)), (.bool ((vlook l at_).isSome))])) (runs_lookup (k := at_) (ok := true) (hs6.oldMap hm) (by kernel_rfl)) ?_
 refine zE 5 (hK10 _ _ ?_)
 refine W.sr fun K11 hK11 => ?_
 refine zE 1 (hK11 _ _ ?_)
 refine W.cond ((vlook l at_).isSome) (by kernel_rfl) (fun h12 => ?_) (fun h12 => ?_)
 ·
  have h12p : ((vlook l at_).isSome) = true := h12
  refine W.sr fun K13 hK13 => ?_
  refine zE 2 (hK13 _ _ ?_)
  refine W.ret (ret_seq ?_)
  refine ret_of (zu ((vlook l at_).getD 0)) (by kernel_rfl) ⟨_, ?_, hs6⟩
  exact ⟨congrArg (Value.int .u64) (by simp only [vget]; rw [if_pos (by omega)]; cases hq : vlook l at_ <;> simp_all), rfl⟩
 have h12p : ((vlook l at_).isSome) = false := h12
 refine W.skip ?_
 refine hK9 _ _ ?_
 refine W.sr fun K14 hK14 => ?_
 refine zR 3 ?_
 refine zL ⟨x.b, 0, none⟩ (.slice x.ia img.length x.ic) (cell_of_blk (hs6.old hb) rfl) ?_
 refine zR 1 ?_
 have hk15 : at_.toNat < img.length := by omega
 refine ops_R (runs_index (a := x.ia) (n := img.length) (z := at_) (size := 1) at_.toNat (by omega) hk15 (kU64.addr (hs6.oldCells hi) hk15) (by kernel_rfl)) ?_
 refine zL ((adr x.ia (at_.toNat * 1)).add 0) (zu (img.getD at_.toNat 0)) (kU64.at (hs6.oldCells hi) hk15 0 0 rfl) ?_
 refine zE 1 (hK14 _ _ ?_)
 refine W.ret ?_
 refine ret_of (zu (img.getD at_.toNat 0)) (by kernel_rfl) ⟨_, ?_, hs6⟩
 exact ⟨congrArg (Value.int .u64) (by simp only [vget]; rw [if_pos (by omega)]; cases hq : vlook l at_ <;> simp_all), rfl⟩
end Go.Proofs.YtmmclabkkigiaaaGreat

set_option maxRecDepth 20000
namespace Go.Proofs.YtmmclabkkigiaaaGreat
open Go Go.RowKit
theorem clone_some {ad : Addr} {c : Nat} {xs : List Int} (B : Nat) (w : World) (hc : CellsAt (some ad) (kU64.cells xs) w) (hsz : xs.length ≤ 17592186044415) : Spec Tryz.prog 27 #[(.slice (some ad) xs.length c)] B w [] (fun v H' => ∃ a' c', v = .slice a' xs.length c' ∧ H' = [kU64.row a' c' xs]) := by
 refine spec_Q Tryz.func27 rfl fun hs => ?_
 refine W.sr fun K1 hK1 => ?_
 refine zE 1 (hK1 _ _ ?_)
 refine W.seq fun K2 hK2 => ?_
 refine W.sr fun K3 hK3 => ?_
 refine zE 2 (hK3 _ _ ?_)
 refine W.cond_false false (by kernel_rfl) rfl ?_
 refine W.skip ?_
 refine hK2 _ _ ?_
 refine W.sr fun K4 hK4 => ?_
 refine ops_new (fun b => .slice (some ⟨b, 0, none⟩) 0 0) (.cells [].toArray 34 (0, 0)) hs (by kernel_rfl) (fun b7 w5 hs6 => ?_)
 refine zR 1 ?_
 have hs8 : St B w [] w5 [kU64.row (some ⟨b7, 0, none⟩) 0 ([])] := St.kblk kU64 [] hs6 rfl rfl (by simp only [List.length_cons, List.length_nil]; decide)
 refine ops_appendK kU64 (bytes := 8) (a' := (some ad)) (c' := c) (l := []) (m := xs) hs8 (by kernel_rfl) (by simp) (hs8.oldCells hc) (by (unfold maxLen; try simp) <;> omega) (by (try simp) <;> omega) (fun a9 c10 w11 hs12 => ?_)
 have hs13 : St B w [] w11 [kU64.row a9 c10 xs] := hs12
 refine zE 1 (hK4 _ _ ?_)
 refine W.ret ?_
 refine ret_of (.slice a9 xs.length c10) (by kernel_rfl) ⟨_, ?_, hs13⟩
 exact ⟨_, _, rfl, rfl⟩
theorem clone_nil  (B : Nat) (w : World) : Spec Tryz.prog 27 #[(.slice none 0 0)] B w [] (fun v H' => ∃ a' c', v = .slice a' 0 c' ∧ H' = [kU64.row a' c' []]) := by
 refine spec_Q Tryz.func27 rfl fun hs => ?_
 refine W.sr fun K1 hK1 => ?_
 refine zE 1 (hK1 _ _ ?_)
 refine W.seq fun K2 hK2 => ?_
 refine W.sr fun K3 hK3 => ?_
 refine zE 2 (hK3 _ _ ?_)
 refine W.cond_true true (by kernel_rfl) rfl ?_
 refine W.sr fun K4 hK4 => ?_
 refine zE 1 (hK4 _ _ ?_)
 refine W.ret (ret_seq ?_)
 have hk := St.knil kU64 hs
 refine ret_of (.slice none 0 0) (by kernel_rfl) ⟨_, ⟨none, 0, rfl, rfl⟩, hk⟩
theorem clone_spec {a : Option Addr} {c : Nat} {xs : List Int} (B : Nat) (w : World) (hc : CellsAt a (kU64.cells xs) w) (hn : a = none → c = 0) (hsz : xs.length ≤ 17592186044415) :
  Spec Tryz.prog 27 #[.slice a xs.length c] B w [] (fun v H' => ∃ a' c', v = .slice a' xs.length c' ∧ H' = [kU64.row a' c' xs]) := by
 cases a with
 | some ad => exact clone_some B w hc hsz
 | none =>
  have h1 := cells_none kU64 hc
  have h2 := hn rfl
  subst h1 h2
  exact clone_nil B w
theorem new_spec {a : Option Addr} {c : Nat} {xs : List Int} (B : Nat) (w : World) (hc : CellsAt a (kU64.cells xs) w) (hn : a = none → c = 0) (hsz : xs.length ≤ 17592186044415) : Spec Tryz.prog 7 #[(.slice a xs.length c)] B w [] (fun v H' => ∃ b, v = ptr b ∧ H' = [viewA (ptr b) xs []]) := by
 refine spec_Q Tryz.func7 rfl fun hs => ?_
 refine W.sr fun K1 hK1 => ?_
 refine zE 1 (hK1 _ _ ?_)
 refine W.sr fun K2 hK2 => ?_
 refine zR 1 ?_
 refine ops_call0 hs (by kernel_rfl) (clone_spec (hc := (hs.oldCells hc)) (hn := hn) (hsz := hsz) B _) ?_
 rintro _ _ w5 ⟨a3, c4, rfl, rfl⟩ hs6
 have hs7 := St.ap1 hs6
 refine ops_makeMap hs7 (by kernel_rfl) (fun b10 w8 hs9 => ?_)
 refine zR 1 ?_
 refine zN [(.slice a3 xs.length c4), (.map (some b10)), (.slice none 0 0)] 85 hs9 fun b13 w11 hs12 => ?_
 refine zE 1 (hK2 _ _ ?_)
 refine W.ret ?_
 have hs14 := St.f1 hs12
 have hs15 := St.f2 hs14
 have hs16 := St.f2 hs15
 have hk := St.knil kInt hs16
 have hk2 := hk.perm (H' := [zb b13 85 [(.slice a3 xs.length c4), (.map (some b10)), (.slice none 0 0)], kU64.row a3 c4 xs, mapA b10 ([]), kInt.row none 0 []]) (perm_last _ _)
 refine ret_of (zp b13) (by kernel_rfl) ⟨_, ⟨b13, rfl, rfl⟩, ?_⟩
 exact view_close (l := []) (ia := a3) (ic := c4) (mb := b10) (oa := none) (oc := 0) (VOk.nil hsz) hk2
end Go.Proofs.YtmmclabkkigiaaaGreat

set_option maxRecDepth 20000
namespace Go.Proofs.YtmmclabkkigiaaaGreat
open Go Go.RowKit
theorem find_spec {p : Value} {img : List Int} {l : List (Int × Int)} {at_ : Int} (B : Nat) (w : World) (hv : RefAt p img l w) : Spec Tryz.prog 92 #[p, (zi at_)] B w [] (fun v H' => ∃ r : Int, FindR l at_ r ∧ v = .int .i64 r ∧ H' = []) := by
 refine spec_Q Tryz.func92 rfl fun hs => ?_
 have hv0 := hv
 obtain ⟨x, rfl, hok, hb, hi, ho, hcap⟩ := hv
 have hroom := hok.many
 have hroom2 := hok.size
 refine W.sr fun K1 hK1 => ?_
 refine zE 1 (hK1 _ _ ?_)
 refine W.seq fun K2 hK2 => ?_
 refine W.sr fun K3 hK3 => ?_
 refine zE 1 (hK3 _ _ ?_)
 refine W.block ?_
 refine W.loop (G := Nat) (fun | k, s_, w_ => (∃ us, s_ = slots 26 [(0, (zp x.b)), (1, (zi at_)), (5, (zi (k : Int)))] us) ∧ St B w [] w_ [] ∧ (k ≤ l.length) ∧ (∀ j, j < k → ¬ (l.getD j (0, 0)).1 = at_)) (fun k => l.length - k) 0 ⟨slots_intro _ (by kernel_rfl), hs, Nat.zero_le _, fun j hj => absurd hj (by omega)⟩ ?_
 rintro k _ w4 ⟨⟨us, rfl⟩, hs5, hk_, hk1⟩
 refine W.seq fun K6 hK6 => ?_
 refine W.sr fun K7 hK7 => ?_
 refine zR 4 ?_
 refine zL ⟨x.b, 1, none⟩ (.slice x.la l.length x.lc) (cell_of_blk (hs5.old hb) rfl) ?_
 refine zE 2 (hK7 _ _ ?_)
 refine W.cond (decide ((k : Int) < (l.length : Int))) (by kernel_rfl) (fun h8 => ?_) (fun h8 => ?_)
 ·
  have h8p := of_decide_eq_true h8
  refine W.skip ?_
  refine hK6 _ _ ?_
  refine W.seq fun K9 hK9 => ?_
  refine W.block ?_
  refine W.sr fun K10 hK10 => ?_
  refine zR 3 ?_
  refine zL ⟨x.b, 1, none⟩ (.slice x.la l.length x.lc) (cell_of_blk (hs5.old hb) rfl) ?_
  refine zR 1 ?_
  have hk11 : k < l.length := by omega
  refine ops_R (runs_index (a := x.la) (n := l.length) (z := (k : Int)) (size := 2) k rfl hk11 (kWr.addr (hs5.oldCells ho) hk11) (by kernel_rfl)) ?_
  refine zR 1 ?_
  refine zL ((adr x.la (k * 2)).add 0) (zi ((l.getD k (0, 0)).1)) (kWr.at (hs5.oldCells ho) hk11 (0, 0) 0 rfl) ?_
  refine zE 2 (hK10 _ _ ?_)
  refine W.cond (decide ((l.getD k (0, 0)).1 = at_)) (by kernel_rfl) (fun h12 => ?_) (fun h12 => ?_)
  ·
   have h12p := of_decide_eq_true h12
   refine W.sr fun K13 hK13 => ?_
   refine zE 2 (hK13 _ _ ?_)
   refine W.ret (ret_block (ret_seq (ret_seq (ret_block (ret_seq ?_)))))
   refine ret_of (zi (k : Int)) (by kernel_rfl) ⟨_, ⟨_, .inr ⟨k, rfl, by omega, by assumption⟩, rfl, rfl⟩, hs5⟩
  have h12p := of_decide_eq_false h12
  refine W.skip ?_
  refine normal_block ?_
  refine hK9 _ _ ?_
  refine W.region ?_
  refine zR 1 ?_
  refine ops_val (v := .int .i64 (IntKind.i64.wrap ((k : Int) + 1))) (v' := .int .i64 ((k + 1 : Nat) : Int)) (by kernel_rfl) (congrArg (Value.int .i64) (wrap_i64 (by omega) (by omega))) ?_
  refine zE 1 ?_
  have hk2 : ∀ j, j < k + 1 → ¬ (l.getD j (0, 0)).1 = at_ := fun j hj => (Nat.lt_succ_iff_lt_or_eq.1 hj).elim (hk1 j) (fun e => by subst e; assumption)
  exact ⟨k + 1, ⟨slots_intro _ (by kernel_rfl), hs5, by omega, hk2⟩, by first | omega | (dsimp only; omega)⟩
 have h8p := of_decide_eq_false h8
 refine W.exit (exit_seq (exit_seq (exit_here ?_)))
 refine hK2 _ _ ?_
 refine W.sr fun K14 hK14 => ?_
 refine zE 1 (hK14 _ _ ?_)
 refine W.ret ?_
 refine ret_of (zi (-1)) (by kernel_rfl) ⟨_, ⟨_, .inl ⟨rfl, find_none (fun j hj => hk1 j (by omega))⟩, rfl, rfl⟩, hs5⟩
theorem rget_spec {p : Value} {img : List Int} {l : List (Int × Int)} {at_ : Int} (B : Nat) (w : World) (hv : RefAt p img l w) : Spec Tryz.prog 67 #[p, (zi at_)] B w [] (fun v H' => v = .int .u64 (vget img l at_) ∧ H' = []) := by
 refine spec_Q Tryz.func67 rfl fun hs => ?_
 have hv0 := hv
 obtain ⟨x, rfl, hok, hb, hi, ho, hcap⟩ := hv
 have hroom := hok.many
 have hroom2 := hok.size
 refine W.sr fun K1 hK1 => ?_
 refine zE 1 (hK1 _ _ ?_)
 refine W.seq fun K2 hK2 => ?_
 refine W.sr fun K3 hK3 => ?_
 refine zR 3 ?_
 rcases Bool.eq_false_or_eq_true (decide (at_ < 0)) with h4 | h4
 ·
  have h4p := of_decide_eq_true h4
  refine zS 8 h4 ?_
  refine zS 7 h4 ?_
  refine zE 8 (hK3 _ _ ?_)
  refine W.cond_true true (by kernel_rfl) rfl ?_
  refine W.sr fun K5 hK5 => ?_
  refine zE 1 (hK5 _ _ ?_)
  refine W.ret (ret_seq ?_)
  refine ret_of (zu 0) (by kernel_rfl) ⟨_, ⟨congrArg (Value.int .u64) (by simp only [vget]; rw [if_neg (by omega)]), rfl⟩, hs⟩
 have h4p := of_decide_eq_false h4
 refine zS 8 h4 ?_
 refine zS 7 h4 ?_
 refine zR 4 ?_
 refine zL ⟨x.b, 0, none⟩ (.slice x.ia img.length x.ic) (cell_of_blk (hs.old hb) rfl) ?_
 refine zE 3 (hK3 _ _ ?_)
 refine W.cond (decide (at_ ≥ (img.length : Int))) (by kernel_rfl) (fun h6 => ?_) (fun h6 => ?_)
 ·
  have h6p := of_decide_eq_true h6
  refine W.sr fun K7 hK7 => ?_
  refine zE 1 (hK7 _ _ ?_)
  refine W.ret (ret_seq ?_)
  refine ret_of (zu 0) (by kernel_rfl) ⟨_, ⟨congrArg (Value.int .u64) (by simp only [vget]; rw [if_neg (by omega)]), rfl⟩, hs⟩
 have h6p := of_decide_eq_false h6
 refine W.skip ?_
 refine hK2 _ _ ?_
 refine W.sr fun K8 hK8 => ?_
 refine zR 2 ?_
 refine ops_call0 hs (by kernel_rfl) (find_spec (p := (zp x.b)) (img := img) (l := l) (at_ := at_) (hv := (refAt_old hs hv0)) B _) ?_
 rintro _ _ w11 ⟨r9, hr10, rfl, rfl⟩ hs12
 have hs13 := St.ap0 hs12
 refine zE 1 (hK8 _ _ ?_)
 refine W.seq fun K14 hK14 => ?_
 refine W.sr fun K15 hK15 => ?_
 refine zE 2 (hK15 _ _ ?_)
 refine W.cond (decide (r9 ≥ 0)) (by kernel_rfl) (fun h16 => ?_) (fun h16 => ?_)
 ·
  have h16p := of_decide_eq_true h16
  have hlt := FindR.lt hr10 (by omega)
  refine W.sr fun K17 hK17 => ?_
  refine zR 3 ?_
  refine zL ⟨x.b, 1, none⟩ (.slice x.la l.length x.lc) (cell_of_blk (hs13.old hb) rfl) ?_
  refine zR 1 ?_
  have hk18 : r9.toNat < l.length := by omega
  refine ops_R (runs_index (a := x.la) (n := l.length) (z := r9) (size := 2) r9.toNat (by omega) hk18 (kWr.addr (hs13.oldCells ho) hk18) (by kernel_rfl)) ?_
  refine zR 1 ?_
  refine zL ((adr x.la (r9.toNat * 2)).add 1) (zu ((l.getD r9.toNat (0, 0)).2)) (kWr.at (hs13.oldCells ho) hk18 (0, 0) 1 rfl) ?_
  refine zE 1 (hK17 _ _ ?_)
  refine W.ret (ret_seq ?_)
  refine ret_of (zu ((l.getD r9.toNat (0, 0)).2)) (by kernel_rfl) ⟨_, ⟨congrArg (Value.int .u64) (rget_some hok.keys hr10 (by omega) (by omega)), rfl⟩, hs13⟩
 have h16p := of_decide_eq_false h16
 refine W.skip ?_
 refine hK14 _ _ ?_
 refine W.sr fun K19 hK19 => ?_
 refine zR 3 ?_
 refine zL ⟨x.b, 0, none⟩ (.slice x.ia img.length x.ic) (cell_of_blk (hs13.old hb) rfl) ?_
 refine zR 1 ?_
 have hk20 : at_.toNat < img.length := by omega
 refine ops_R (runs_index (a := x.ia) (n := img.length) (z := at_) (size := 1) at_.toNat (by omega) hk20 (kU64.addr (hs13.oldCells hi) hk20) (by kernel_rfl)) ?_
 refine zL ((adr x.ia (at_.toNat * 1)).add 0) (zu (img.getD at_.toNat 0)) (kU64.at (hs13.oldCells hi) hk20 0 0 rfl) ?_
 refine zE 1 (hK19 _ _ ?_)
 refine W.ret ?_
 refine ret_of (zu (img.getD at_.toNat 0)) (by kernel_rfl) ⟨_, ⟨congrArg (Value.int .u64) (rget_none hr10 (by omega) (by omega)), rfl⟩, hs13⟩
end Go.Proofs.YtmmclabkkigiaaaGreat

set_option maxRecDepth 20000
namespace Go.Proofs.YtmmclabkkigiaaaGreat
open Go Go.RowKit
theorem rnew_spec {a : Option Addr} {c : Nat} {xs : List Int} (B : Nat) (w : World) (hc : CellsAt a (kU64.cells xs) w) (hn : a = none → c = 0) (hsz : xs.length ≤ 17592186044415) : Spec Tryz.prog 8 #[(.slice a xs.length c)] B w [] (fun v H' => ∃ b, v = ptr b ∧ H' = [refA (ptr b) xs []]) := by
 refine spec_Q Tryz.func8 rfl fun hs => ?_
 refine W.sr fun K1 hK1 => ?_
 refine zE 1 (hK1 _ _ ?_)
 refine W.sr fun K2 hK2 => ?_
 refine ops_new (fun b => .slice (some ⟨b, 0, none⟩) 0 0) (.cells [].toArray 34 (0, 0)) hs (by kernel_rfl) (fun b5 w3 hs4 => ?_)
 refine zR 1 ?_
 have hs6 : St B w [] w3 [kU64.row (some ⟨b5, 0, none⟩) 0 ([])] := St.kblk kU64 [] hs4 rfl rfl (by simp only [List.length_cons, List.length_nil]; decide)
 refine ops_appendK kU64 (bytes := 8) (a' := a) (c' := c) (l := []) (m := xs) hs6 (by kernel_rfl) hn (hs6.oldCells hc) (by (unfold maxLen; try simp) <;> omega) (by (try simp) <;> omega) (fun a7 c8 w9 hs10 => ?_)
 have hs11 : St B w [] w9 [kU64.row a7 c8 xs] := hs10
 refine zR 1 ?_
 refine zN [(.slice a7 xs.length c8), (.slice none 0 0), (.bool false)] 87 hs11 fun b14 w12 hs13 => ?_
 refine zE 1 (hK2 _ _ ?_)
 refine W.ret ?_
 have hk := St.knil kWr hs13
 have hk2 := hk.perm (H' := [zb b14 87 [(.slice a7 xs.length c8), (.slice none 0 0), (.bool false)], kU64.row a7 c8 xs, kWr.row none 0 []]) (perm_last _ _)
 refine ret_of (zp b14) (by kernel_rfl) ⟨_, ⟨b14, rfl, rfl⟩, ?_⟩
 exact ref_close (l := []) (ia := a7) (ic := c8) (la := none) (lc := 0) (many := false) (VOk.nil hsz) hk2
theorem rput_spec {p : Value} {img : List Int} {l : List (Int × Int)} {at_ x_ : Int} (B : Nat) (w : World) : Spec Tryz.prog 107 #[p, (zi at_), (zu x_)] B w [refA p img l] (fun v H' => v = .int .i64 (vput img l at_ x_).1 ∧ H' = [refA p img (vput img l at_ x_).2]) := by
 refine spec_W Tryz.func107 rfl fun l0 hs => ?_
 obtain ⟨x, ⟨rfl, hok⟩, hs0⟩ := St.open hs
 have hs1 : St B w l0 w [zb x.b 87 [(.slice x.ia img.length x.ic), (.slice x.la l.length x.lc), (.bool x.many)], kU64.row x.ia x.ic img, kWr.row x.la x.lc l] := hs0
 have hroom := hok.many
 have hroom2 := hok.size
 refine W.sr fun K1 hK1 => ?_
 refine zE 1 (hK1 _ _ ?_)
 refine W.seq fun K2 hK2 => ?_
 refine W.sr fun K3 hK3 => ?_
 refine zR 3 ?_
 rcases Bool.eq_false_or_eq_true (decide (at_ < 0)) with h4 | h4
 ·
  have h4p := of_decide_eq_true h4
  refine zS 10 h4 ?_
  refine zS 9 h4 ?_
  refine zE 8 (hK3 _ _ ?_)
  refine W.cond_true true (by kernel_rfl) rfl ?_
  refine W.sr fun K5 hK5 => ?_
  refine zE 1 (hK5 _ _ ?_)
  refine W.ret (ret_seq ?_)
  have hs_ := hs1
  have e_ : vput img l at_ x_ = (8, l) := by simp only [vput]; rw [if_neg (by omega)]
  refine ret_of (zi 8) (by kernel_rfl) ⟨_, ⟨by rw [e_], rfl⟩, by rw [e_]; exact ref_close (l := l) (ia := x.ia) (ic := x.ic) (la := x.la) (lc := x.lc) (many := x.many) hok hs_⟩
 have h4p := of_decide_eq_false h4
 refine zS 10 h4 ?_
 refine zS 9 h4 ?_
 refine zR 4 ?_
 refine zL ⟨x.b, 0, none⟩ (.slice x.ia img.length x.ic) (hs1.cellAt 0 rfl rfl) ?_
 refine zE 3 (hK3 _ _ ?_)
 refine W.cond (decide (at_ ≥ (img.length : Int))) (by kernel_rfl) (fun h6 => ?_) (fun h6 => ?_)
 ·
  have h6p := of_decide_eq_true h6
  refine W.sr fun K7 hK7 => ?_
  refine zE 1 (hK7 _ _ ?_)
  refine W.ret (ret_seq ?_)
  have hs_ := hs1
  have e_ : vput img l at_ x_ = (8, l) := by simp only [vput]; rw [if_neg (by omega)]
  refine ret_of (zi 8) (by kernel_rfl) ⟨_, ⟨by rw [e_], rfl⟩, by rw [e_]; exact ref_close (l := l) (ia := x.ia) (ic := x.ic) (la := x.la) (lc := x.lc) (many := x.many) hok hs_⟩
 have h6p := of_decide_eq_false h6
 refine W.skip ?_
 refine hK2 _ _ ?_
 refine W.sr fun K8 hK8 => ?_
 refine zR 2 ?_
 refine ops_call0 hs1 (by kernel_rfl) (find_spec (p := (zp x.b)) (img := img) (l := l) (at_ := at_) (hv := ⟨x, rfl, hok, hs1.heapAt 0 rfl, St.kcells kU64 hs1 1 rfl, St.kcells kWr hs1 2 rfl, St.capnil kU64 hs1 1 rfl⟩) B _) ?_
 rintro _ _ w11 ⟨r9, hr10, rfl, rfl⟩ hs12
 have hs13 := St.ap0 hs12
 refine zE 1 (hK8 _ _ ?_)
 refine W.seq fun K14 hK14 => ?_
 refine W.sr fun K15 hK15 => ?_
 refine zE 2 (hK15 _ _ ?_)
 refine W.cond (decide (r9 ≥ 0)) (by kernel_rfl) (fun h16 => ?_) (fun h16 => ?_)
 ·
  have h16p := of_decide_eq_true h16
  have hlt := FindR.lt hr10 (by omega)
  refine W.sr fun K17 hK17 => ?_
  refine zR 3 ?_
  refine zL ⟨x.b, 1, none⟩ (.slice x.la l.length x.lc) (hs13.cellAt 0 rfl rfl) ?_
  refine zR 2 ?_
  have hk18 : r9.toNat < l.length := by omega
  refine ops_R (runs_index (a := x.la) (n := l.length) (z := r9) (size := 2) r9.toNat (by omega) hk18 (kWr.addr (St.kcells kWr hs13 2 rfl) hk18) (by kernel_rfl)) ?_
  refine zR 1 ?_
  have hs21 := St.f2 hs13
  refine ops_storeK kWr (j := 1) (vs := [(zu x_)]) (0, 0) ((l.getD r9.toNat (0, 0)).1, x_) hs21 hk18 (Nat.le_of_ble_eq_true rfl) (by simp) rfl rfl (by kernel_rfl) (fun w19 hs20 => ?_)
  refine zD (hK17 _ _ ?_)
  refine W.sr fun K23 hK23 => ?_
  refine zE 1 (hK23 _ _ ?_)
  refine W.ret (ret_seq ?_)
  have hs24 := St.f2 hs20
  have hs25 := St.f2 hs24
  have hs_ := hs25
  have e_ : vput img l at_ x_ = (0, vset l at_ x_) := rput_some hok.keys hr10 (by omega) (by omega)
  rw [← vset_length_some (v := x_) (FindR.isSome hok.keys hr10 (by omega))] at hs_
  have el_ := rput_set (x := x_) hok.keys hr10 (by omega)
  rw [el_] at hs_
  refine ret_of (zi 0) (by kernel_rfl) ⟨_, ⟨by rw [e_], rfl⟩, by rw [e_]; exact ref_close (l := (vset l at_ x_)) (ia := x.ia) (ic := x.ic) (la := x.la) (lc := x.lc) (many := x.many) (hok.put (by omega) (.inl (FindR.isSome hok.keys hr10 (by omega)))) hs_⟩
 have h16p := of_decide_eq_false h16
 refine W.skip ?_
 refine hK14 _ _ ?_
 refine W.seq fun K26 hK26 => ?_
 refine W.sr fun K27 hK27 => ?_
 refine zR 3 ?_
 refine zL ⟨x.b, 1, none⟩ (.slice x.la l.length x.lc) (hs13.cellAt 0 rfl rfl) ?_
 refine zE 2 (hK27 _ _ ?_)
 refine W.cond (decide ((l.length : Int) ≥ 96)) (by kernel_rfl) (fun h28 => ?_) (fun h28 => ?_)
 ·
  have h28p := of_decide_eq_true h28
  refine W.sr fun K29 hK29 => ?_
  refine zR 3 ?_
  refine zT 2 [(.bool true)] [(.slice x.ia img.length x.ic), (.slice x.la l.length x.lc), (.bool true)] hs13 fun w30 hs32 => ?_
  refine zD (hK29 _ _ ?_)
  refine W.sr fun K33 hK33 => ?_
  refine zE 1 (hK33 _ _ ?_)
  refine W.ret (ret_seq ?_)
  have hs_ := hs32
  have e_ : vput img l at_ x_ = (5, l) := rput_many hr10 (by omega) (by omega) (by omega)
  refine ret_of (zi 5) (by kernel_rfl) ⟨_, ⟨by rw [e_], rfl⟩, by rw [e_]; exact ref_close (l := l) (ia := x.ia) (ic := x.ic) (la := x.la) (lc := x.lc) (many := true) hok hs_⟩
 have h28p := of_decide_eq_false h28
 refine W.skip ?_
 refine hK26 _ _ ?_
 refine W.sr fun K34 hK34 => ?_
 refine zR 4 ?_
 refine zL ⟨x.b, 1, none⟩ (.slice x.la l.length x.lc) (hs13.cellAt 0 rfl rfl) ?_
 refine zR 3 ?_
 refine ops_new (fun b => .slice (some ⟨b, 0, none⟩) 1 1) (.cells [(zi at_), (zu x_)].toArray 99 (0, 0)) hs13 (by kernel_rfl) (fun b37 w35 hs36 => ?_)
 have hs38 := St.f3 hs36
 refine ops_appendK kWr (bytes := 16) (a' := (some ⟨b37, 0, none⟩)) (c' := 1) (l := l) (m := [(at_, x_)]) hs38 (by kernel_rfl) (by simp) (cells_blk (hs38.heapAt 1 rfl)) (by (unfold maxLen; try simp) <;> omega) (by (try simp) <;> omega) (fun a39 c40 w41 hs42 => ?_)
 refine zR 2 ?_
 have hs45 := St.f2 hs42
 refine zT 1 [(.slice a39 ((l ++ [(at_, x_)]).length) c40)] [(.slice x.ia img.length x.ic), (.slice a39 ((l ++ [(at_, x_)]).length) c40), (.bool x.many)] hs45 fun w43 hs46 => ?_
 refine zD (hK34 _ _ ?_)
 refine W.sr fun K47 hK47 => ?_
 refine zE 1 (hK47 _ _ ?_)
 refine W.ret ?_
 have hs48 := St.f1 hs46
 have hs49 := St.f3 hs48
 have hs50 := St.f2 hs49
 have hs51 := St.tk3 hs50
 have hs_ := hs51
 have e_ : vput img l at_ x_ = (0, vset l at_ x_) := rput_new hr10 (by omega) (by omega) (by omega)
 have el_ := rput_app (x := x_) hr10 (by omega)
 rw [el_] at hs_
 refine ret_of (zi 0) (by kernel_rfl) ⟨_, ⟨by rw [e_], rfl⟩, by rw [e_]; exact ref_close (l := (vset l at_ x_)) (ia := x.ia) (ic := x.ic) (la := a39) (lc := c40) (many := x.many) (hok.put (by omega) (.inr (by omega))) hs_⟩
theorem rflat_spec {p : Value} {img : List Int} {l : List (Int × Int)} (B : Nat) (w : World) (hv : RefAt p img l w) : Spec Tryz.prog 25 #[p] B w [] (fun v H' => ∃ a' c', v = .slice a' (vflat img l).length c' ∧ H' = [kU64.row a' c' (vflat img l)]) := by
 refine spec_Q Tryz.func25 rfl fun hs => ?_
 have hv0 := hv
 obtain ⟨x, rfl, hok, hb, hi, ho, hcap⟩ := hv
 have hroom := hok.many
 have hroom2 := hok.size
 refine W.sr fun K1 hK1 => ?_
 refine zE 1 (hK1 _ _ ?_)
 refine W.sr fun K2 hK2 => ?_
 refine ops_new (fun b => .slice (some ⟨b, 0, none⟩) 0 0) (.cells [].toArray 34 (0, 0)) hs (by kernel_rfl) (fun b5 w3 hs4 => ?_)
 refine zR 3 ?_
 refine zL ⟨x.b, 0, none⟩ (.slice x.ia img.length x.ic) (cell_of_blk (hs4.old hb) rfl) ?_
 have hs6 : St B w [] w3 [kU64.row (some ⟨b5, 0, none⟩) 0 ([])] := St.kblk kU64 [] hs4 rfl rfl (by simp only [List.length_cons, List.length_nil]; decide)
 refine ops_appendK kU64 (bytes := 8) (a' := x.ia) (c' := x.ic) (l := []) (m := img) hs6 (by kernel_rfl) hcap (hs6.oldCells hi) (by (unfold maxLen; try simp) <;> omega) (by (try simp) <;> omega) (fun a7 c8 w9 hs10 => ?_)
 have hs11 : St B w [] w9 [kU64.row a7 c8 img] := hs10
 refine zE 1 (hK2 _ _ ?_)
 refine W.seq fun K12 hK12 => ?_
 refine W.sr fun K13 hK13 => ?_
 refine zE 1 (hK13 _ _ ?_)
 refine W.block ?_
 refine W.loop (G := Nat) (fun | k, s_, w_ => (∃ us, s_ = slots 39 [(0, (zp x.b)), (3, (.slice a7 img.length c8)), (4, (zi (k : Int)))] us) ∧ St B w [] w_ [kU64.row a7 c8 (vflat img (l.take k))] ∧ (k ≤ l.length)) (fun k => l.length - k) 0 ⟨slots_intro _ (by kernel_rfl), hs11, Nat.zero_le _⟩ ?_
 rintro k _ w14 ⟨⟨us, rfl⟩, hs15, hk_⟩
 refine W.seq fun K16 hK16 => ?_
 refine W.sr fun K17 hK17 => ?_
 refine zR 4 ?_
 refine zL ⟨x.b, 1, none⟩ (.slice x.la l.length x.lc) (cell_of_blk (hs15.old hb) rfl) ?_
 refine zE 2 (hK17 _ _ ?_)
 refine W.cond (decide ((k : Int) < (l.length : Int))) (by kernel_rfl) (fun h18 => ?_) (fun h18 => ?_)
 ·
  have h18p := of_decide_eq_true h18
  have hin := hok.inside (l.getD k (0, 0)) (by simp [show k < l.length by omega])
  refine W.skip ?_
  refine hK16 _ _ ?_
  refine W.seq fun K19 hK19 => ?_
  refine W.block ?_
  have hs20 := hs15.drew
  have hs21 := St.tk0 hs20
  refine W.regionD [(0, 0), (0, 0), (2, 2), (4, 4), (8, 8), (0, 0), (48, 48), (64, 64), (128, 128), (0, 0), (512, 512), (1024, 1024), (2048, 2048), (0, 0), (12288, 12288), (16384, 16384), (32768, 32768), (131071, 257), (262143, 196608)] (fun w_ => St B w [] w_ []) (by kernel_rfl) hs21 ?_
  refine zA (.slice a7 img.length c8) 0 hs21 ?_
  refine zA (zp x.b) 1 hs21 ?_
  refine zA (zp x.b) 2 hs21 ?_
  refine zA (.pointer (some ⟨x.b, 1, none⟩)) 3 hs21 ?_
  refine zB 4 ⟨x.b, 1, none⟩ (.slice x.la l.length x.lc) (fun _ hS_ => (cell_of_blk (hS_.old hb) rfl)) hs21 ?_
  refine zA (zi (k : Int)) 5 hs21 ?_
  have hk22 : k < l.length := by omega
  refine any_R 6 (by kernel_rfl) (fun _ hS_ => runs_index (a := x.la) (n := l.length) (z := (k : Int)) (size := 2) k rfl hk22 (kWr.addr (hs20.oldCells ho) hk22) (by kernel_rfl)) hs21 ?_
  refine zA (.pointer (some (adr x.la (k * 2)))) 7 hs21 ?_
  refine zB 8 ((adr x.la (k * 2)).add 0) (zi ((l.getD k (0, 0)).1)) (fun _ hS_ => (kWr.at (hS_.oldCells ho) hk22 (0, 0) 0 rfl)) hs21 ?_
  refine zA (zp x.b) 9 hs21 ?_
  refine zA (zp x.b) 10 hs21 ?_
  refine zA (.pointer (some ⟨x.b, 1, none⟩)) 11 hs21 ?_
  refine zB 12 ⟨x.b, 1, none⟩ (.slice x.la l.length x.lc) (fun _ hS_ => (cell_of_blk (hS_.old hb) rfl)) hs21 ?_
  refine zA (zi (k : Int)) 13 hs21 ?_
  have hk23 : k < l.length := by omega
  refine any_R 14 (by kernel_rfl) (fun _ hS_ => runs_index (a := x.la) (n := l.length) (z := (k : Int)) (size := 2) k rfl hk23 (kWr.addr (hs20.oldCells ho) hk23) (by kernel_rfl)) hs21 ?_
  refine zA (.pointer (some ((adr x.la (k * 2)).add 1))) 15 hs21 ?_
  refine zB 16 ((adr x.la (k * 2)).add 1) (zu ((l.getD k (0, 0)).2)) (fun _ hS_ => (kWr.at (hS_.oldCells ho) hk23 (0, 0) 1 rfl)) hs21 ?_
  have hk24 : ((l.getD k (0, 0)).1).toNat < img.length := by omega
  have hk25 : ((l.getD k (0, 0)).1).toNat < (vflat img (l.take k)).length := (by rw [vflat_length]; exact hk24)
  refine any_R 17 (by kernel_rfl) (fun _ hS_ => runs_index (a := a7) (n := img.length) (z := (l.getD k (0, 0)).1) (size := 1) (((l.getD k (0, 0)).1).toNat) (by omega) hk24 (kU64.addr (St.kcells kU64 hs20 0 rfl) hk25) (by kernel_rfl)) hs21 ?_
  refine any_step 18 (by kernel_rfl) (by kernel_rfl) ?_
  refine ops_storeK kU64 (j := 0) (vs := [(zu ((l.getD k (0, 0)).2))]) 0 ((l.getD k (0, 0)).2) hs20 hk25 (Nat.le_of_ble_eq_true rfl) (by simp) rfl rfl (by kernel_rfl) (fun w26 hs27 => ?_)
  have hs29 := St.tk0 hs27
  refine ops_done (by kernel_rfl) ⟨hs29, ?_⟩
  refine any_done (by kernel_rfl) ?_
  refine normal_block ?_
  refine hK19 _ _ ?_
  refine W.region ?_
  refine zR 1 ?_
  refine ops_val (v := .int .i64 (IntKind.i64.wrap ((k : Int) + 1))) (v' := .int .i64 ((k + 1 : Nat) : Int)) (by kernel_rfl) (congrArg (Value.int .i64) (wrap_i64 (by omega) (by omega))) ?_
  refine zE 1 ?_
  have e_ := vflat_step img (l := l) (k := k) (by omega)
  rw [e_] at hs27
  exact ⟨k + 1, ⟨slots_intro _ (by kernel_rfl), hs27, by omega⟩, by first | omega | (dsimp only; omega)⟩
 have h18p := of_decide_eq_false h18
 refine W.exit (exit_seq (exit_seq (exit_here ?_)))
 refine hK12 _ _ ?_
 refine W.sr fun K30 hK30 => ?_
 refine zE 2 (hK30 _ _ ?_)
 refine W.ret ?_
 have e2_ : l.take k = l := List.take_of_length_le (by omega)
 have hs_ := hs15
 rw [e2_] at hs_
 refine ret_of (.slice a7 img.length c8) (by kernel_rfl) ⟨_, ⟨a7, c8, by rw [vflat_length], rfl⟩, hs_⟩
end Go.Proofs.YtmmclabkkigiaaaGreat

namespace Go.Proofs.YtmmclabkkigiaaaGreat
open Go Go.RowKit
def May (gw gi gb : Int) : Prop := (1 ≤ gw ∧ gw ≤ 4) ∧ (2 ≤ gi ∧ gi ≤ 64) ∧ (2 ≤ gb ∧ gb ≤ 512)
instance (gw gi gb : Int) : Decidable (May gw gi gb) := by unfold May; exact inferInstance
theorem may_out {gw gi gb : Int} (h : May gw gi gb) : (1 ≤ gw ∧ gw ≤ 4) ∧ (2 ≤ gi ∧ gi ≤ 64) ∧ (2 ≤ gb ∧ gb ≤ 512) := h
def placeOf (k : Nat) (gw gi gb n : Int) : Int :=
  if May gw gi gb then
    match k with
    | 2 => if 0 ≤ n ∧ n < 4 then 8 + 64 * n else -1
    | 6 => if 0 ≤ n ∧ n < 1 then 264 + 208 * gw + 8 * n else -1
    | 7 => if 0 ≤ n ∧ n < 1 then 272 + 208 * gw + 8 * n else -1
    | 8 => if 0 ≤ n ∧ n < gi then 280 + 208 * gw + 16 * n else -1
    | 9 => if 0 ≤ n ∧ n < gb then 280 + 208 * gw + 16 * gi + 8 * n else -1
    | _ => -1
  else -1
def wordsOf (gw gi gb : Int) : Int := if May gw gi gb then 280 + 208 * gw + 16 * gi + 8 * gb else 0
def fmtW (gw gi gb : Int) : List Int :=
  if May gw gi gb then
    ((((((((List.replicate (wordsOf gw gi gb).toNat 0).set 0 32762617960297063).set 1 gw).set 2 gi).set 3 gb).set (placeOf 6 gw gi gb 0).toNat 3).set (placeOf 7 gw gi gb 0).toNat 1).set (placeOf 8 gw gi gb 1).toNat 2).set (placeOf 8 gw gi gb 1 + 1).toNat 1
  else []
theorem fmtW_len (gw gi gb : Int) : (fmtW gw gi gb).length = (wordsOf gw gi gb).toNat := by
  unfold fmtW
  split
  · simp only [List.length_set, List.length_replicate]
  · rename_i h; simp [wordsOf, h]
theorem words_may {gw gi gb : Int} (h : May gw gi gb) : wordsOf gw gi gb = 280 + 208 * gw + 16 * gi + 8 * gb := by simp only [wordsOf, if_pos h]
theorem place6 {gw gi gb : Int} (h : May gw gi gb) : placeOf 6 gw gi gb 0 = 264 + 208 * gw := by simp [placeOf, h]
theorem place7 {gw gi gb : Int} (h : May gw gi gb) : placeOf 7 gw gi gb 0 = 272 + 208 * gw := by simp [placeOf, h]
theorem place8_in {gw gi gb n : Int} (h : May gw gi gb) (hn : 0 ≤ n ∧ n < gi) : placeOf 8 gw gi gb n = 280 + 208 * gw + 16 * n := by simp [placeOf, h, hn]
theorem place8_cases (gw gi gb n : Int) : placeOf 8 gw gi gb n = -1 ∧ ¬ (May gw gi gb ∧ 0 ≤ n ∧ n < gi) ∨ (May gw gi gb ∧ (0 ≤ n ∧ n < gi) ∧ placeOf 8 gw gi gb n = 280 + 208 * gw + 16 * n) := by
  by_cases h : May gw gi gb
  · by_cases hn : 0 ≤ n ∧ n < gi
    · exact .inr ⟨h, hn, place8_in h hn⟩
    · exact .inl ⟨by simp [placeOf, h, hn], fun q => hn q.2⟩
  · exact .inl ⟨by simp [placeOf, h], fun q => h q.1⟩
def mx (x y : Int) : Int := if y > x then y else x
def mn (x y : Int) : Int := if y < x then y else x
theorem mx_lt {x y z : Int} : mx x y < z ↔ x < z ∧ y < z := by unfold mx; split <;> omega
theorem le_mx {x y z : Int} : z ≤ mx x y ↔ z ≤ x ∨ z ≤ y := by unfold mx; split <;> omega
structure Nd where
  k : Int
  l : Int
  o : Int
  s : Int
  a : Int
  b : Int
  c : Int
  d : Int
  e : Int
  m : Int
def Nd.list (x : Nd) : List Int := [x.k, x.l, x.o, x.s, x.a, x.b, x.c, x.d, x.e, x.m]
def Nd.zero : Nd := ⟨0, 0, 0, 0, 0, 0, 0, 0, 0, 0⟩
def RightP (gw gi gb : Int) (x : Nd) : Prop :=
  May gw gi gb ∧ (x.a < gb ∧ x.b < gb ∧ x.c < gb ∧ x.d < gb ∧ x.e < gb ∧ x.m < gi) ∧ (x.l ≤ 65536 ∧ x.o ≤ 16 ∧ x.s ≤ 768) ∧ ((x.k = 1 ∧ x.m = 0) ∨ (x.k = 2 ∧ x.s = 0))
instance (gw gi gb : Int) (x : Nd) : Decidable (RightP gw gi gb x) := by unfold RightP; exact inferInstance
def vwrite (img : List Int) (l : List (Int × Int)) (at_ x : Int) : Int × List (Int × Int) :=
  if at_ < 0 ∨ at_ ≥ img.length then (8, l) else if vget img l at_ = x then (0, l) else vput img l at_ x
def vwrites (img : List Int) (at_ : Int) : List (Int × Int) → Int → List Int → Int × List (Int × Int)
  | l, _, [] => (0, l)
  | l, i, x :: xs => if (vwrite img l (at_ + i) x).1 = 0 then vwrites img at_ (vwrite img l (at_ + i) x).2 (i + 1) xs else vwrite img l (at_ + i) x
def ifind (len : Int) (gw gi gb n : Int) : Int × Int :=
  if placeOf 8 gw gi gb n < 0 ∨ n = 0 then (0, 1) else if len < wordsOf gw gi gb then (0, 8) else (placeOf 8 gw gi gb n, 0)
theorem vwrites_step {img : List Int} {at_ : Int} {m : List (Int × Int)} {ws : List Int} {k : Nat} (hk : k < ws.length) :
    vwrites img at_ m (k : Int) (ws.drop k) = if (vwrite img m (at_ + (k : Int)) (ws.getD k 0)).1 = 0 then vwrites img at_ (vwrite img m (at_ + (k : Int)) (ws.getD k 0)).2 ((k + 1 : Nat) : Int) (ws.drop (k + 1)) else vwrite img m (at_ + (k : Int)) (ws.getD k 0) := by
  have e : ws.drop k = ws.getD k 0 :: ws.drop (k + 1) := by
    rw [List.drop_eq_getElem_cons hk]
    simp [hk]
  rw [e]
  rfl
theorem ifind_range (len gw gi gb n : Int) : ((ifind len gw gi gb n).2 = 0 ∨ (ifind len gw gi gb n).2 = 1 ∨ (ifind len gw gi gb n).2 = 8) ∧ (0 ≤ (ifind len gw gi gb n).1 ∧ (ifind len gw gi gb n).1 ≤ 2200) ∧ ((ifind len gw gi gb n).2 = 0 → (ifind len gw gi gb n).1 = placeOf 8 gw gi gb n) := by
  have hp : -1 ≤ placeOf 8 gw gi gb n ∧ placeOf 8 gw gi gb n ≤ 2200 := by
    rcases place8_cases gw gi gb n with ⟨h, _⟩ | ⟨h, hn, e⟩
    · omega
    · have h_ : (1 ≤ gw ∧ gw ≤ 4) ∧ (2 ≤ gi ∧ gi ≤ 64) ∧ (2 ≤ gb ∧ gb ≤ 512) := h
      omega
  unfold ifind
  split
  · simp
  · split
    · simp
    · simp; omega
def iputM (img : List Int) (l : List (Int × Int)) (gw gi gb n : Int) (x : Nd) : Int × List (Int × Int) :=
  if RightP gw gi gb x then
    if (ifind img.length gw gi gb n).2 = 0 then vwrites img (ifind img.length gw gi gb n).1 l 0 x.list else ((ifind img.length gw gi gb n).2, l)
  else (1, l)
def ndAt (img : List Int) (l : List (Int × Int)) (at_ : Int) : Nd :=
  ⟨vget img l (at_ + 0), vget img l (at_ + 1), vget img l (at_ + 2), vget img l (at_ + 3), vget img l (at_ + 4), vget img l (at_ + 5), vget img l (at_ + 6), vget img l (at_ + 7), vget img l (at_ + 8), vget img l (at_ + 9)⟩
def igetM (img : List Int) (l : List (Int × Int)) (gw gi gb n : Int) : Nd × Int :=
  if (ifind img.length gw gi gb n).2 = 0 then
    if RightP gw gi gb (ndAt img l (ifind img.length gw gi gb n).1) then (ndAt img l (ifind img.length gw gi gb n).1, 0) else (.zero, 4)
  else (.zero, (ifind img.length gw gi gb n).2)
end Go.Proofs.YtmmclabkkigiaaaGreat

namespace Go.Proofs.YtmmclabkkigiaaaGreat
theorem mn_part {n k : Nat} (h : 8 * k < n) : mn 8 ((n - 8 * k : Nat) : Int) = ((partN n k : Nat) : Int) := by
  unfold mn partN; split <;> split <;> omega
open Go Go.RowKit
theorem part_adr (b q j : Nat) : adr ((some ⟨b, 0, none⟩ : Option Addr).map (·.add (8 * q * 1))) (j * 1) = ⟨b, 8 * q + j, none⟩ := by
  unfold adr Addr.add
  simp
  split <;> split <;> simp_all
theorem part_cell {w : World} {b q j : Nat} {C : Array Value} {e : TypeId} {fz : Nat × Nat} {v : Value} (h : w.heap[b]? = some (.cells C e fz)) (hv : C[8 * q + j]? = some v) :
    w.cell? (adr ((some ⟨b, 0, none⟩ : Option Addr).map (·.add (8 * q * 1))) (j * 1)) = some v := by
  rw [part_adr]
  simp only [World.cell?, h]
  exact hv
theorem drop_bytes {s : ByteArray} {C : Array Value} {q m : Nat} (hC : ∀ j, j < s.size → C[j]? = some (.int .u8 ((strNums s).getD j 0))) (hm : 8 * q + m ≤ s.size) : ∀ j, j < m → C[8 * q + j]? = some (.int .u8 (((strNums s).drop (8 * q)).getD j 0)) := by
  intro j hj
  rw [hC _ (by omega), List.getD_eq_getElem?_getD, List.getD_eq_getElem?_getD, List.getElem?_drop]
end Go.Proofs.YtmmclabkkigiaaaGreat

set_option maxRecDepth 20000
set_option maxHeartbeats 2000000
namespace Go.Proofs.YtmmclabkkigiaaaGreat
open Go Go.RowKit
theorem chunk1_spec {b0 bn bc c1 c2 yl : Nat} {Y : Nat → Asn} {Z : Asn} (B : Nat) (w : World) (hbc : bn ≤ bc) (hbm : bn ≤ 1000000) (hy : ∀ k : Nat, 8 * k < bn → ∀ w', YSpec Tryz.prog yl #[.slice ((some ⟨b0, 0, none⟩ : Option Addr).map (·.add (8 * k * 1))) (partN bn k) (partN bn k)] B w' [Y k] (fun v H' => (v = .bool true ∧ H' = [Y (k + 1)]) ∨ (v = .bool false ∧ H' = [Z]))) : Spec Tryz.prog 131 #[(.func (.yield yl) #[] #[]), (zp c1), (zp c2)] B w [zb c1 149 [(.slice (some ⟨b0, 0, none⟩) bn bc)], zb c2 3 [(zi 8)], Y 0] (fun v H' => v = .tuple #[] ∧ (H' = [zb c1 149 [(.slice (some ⟨b0, 0, none⟩) bn bc)], zb c2 3 [(zi 8)], Y ((bn + 7) / 8)] ∨ H' = [zb c1 149 [(.slice (some ⟨b0, 0, none⟩) bn bc)], zb c2 3 [(zi 8)], Z])) := by
 refine spec_W Tryz.func131 rfl fun l0 hs => ?_
 refine W.sr fun K1 hK1 => ?_
 refine zE 1 (hK1 _ _ ?_)
 refine W.block ?_
 refine W.loop (G := Nat) (fun | k, s_, w_ => (∃ us, s_ = slots 31 [(0, (.func (.yield yl) #[] #[])), (1, (zp c1)), (2, (zp c2)), (4, (zi ((8 * k : Nat) : Int)))] us) ∧ St B w l0 w_ [zb c1 149 [(.slice (some ⟨b0, 0, none⟩) bn bc)], zb c2 3 [(zi 8)], Y k] ∧ (8 * k < bn + 8)) (fun k => bn - 8 * k) 0 ⟨slots_intro _ (by kernel_rfl), hs, by omega⟩ ?_
 rintro k _ w2 ⟨⟨us, rfl⟩, hs3, hk0⟩
 refine W.seq fun K4 hK4 => ?_
 refine W.sr fun K5 hK5 => ?_
 refine zR 1 ?_
 refine zL ⟨c1, 0, none⟩ (.slice (some ⟨b0, 0, none⟩) bn bc) (hs3.cellAt 0 rfl rfl) ?_
 refine zE 2 (hK5 _ _ ?_)
 refine W.cond (decide (((8 * k : Nat) : Int) < (bn : Int))) (by kernel_rfl) (fun h6 => ?_) (fun h6 => ?_)
 ·
  have h6p := of_decide_eq_true h6
  refine W.skip ?_
  refine hK4 _ _ ?_
  refine W.seq fun K7 hK7 => ?_
  refine W.block ?_
  refine W.seq fun K8 hK8 => ?_
  have hs9 := hs3.drew
  refine W.regionD [(0, 0), (0, 0), (0, 0), (6, 6), (8, 8), (17, 17), (63, 32)] (fun w_ => St B w l0 w_ [zb c1 149 [(.slice (some ⟨b0, 0, none⟩) bn bc)], zb c2 3 [(zi 8)], Y k]) (by kernel_rfl) hs9 ?_
  refine zB 0 ⟨c2, 0, none⟩ (zi 8) (fun _ hS_ => (hS_.cellAt 1 rfl rfl)) hs9 ?_
  refine zB 1 ⟨c1, 0, none⟩ (.slice (some ⟨b0, 0, none⟩) bn bc) (fun _ hS_ => (hS_.cellAt 0 rfl rfl)) hs9 ?_
  refine zA (zi ((8 * k : Nat) : Int)) 2 hs9 ?_
  refine any_step 3 (by kernel_rfl) (by kernel_rfl) ?_
  refine ops_R (runs_suffix (a := (some ⟨b0, 0, none⟩)) (n := bn) (c := bc) (z := ((8 * k : Nat) : Int)) (size := 1) (8 * k) rfl (by omega) hbc (by omega) ⟨_, rfl⟩ (by kernel_rfl)) ?_
  refine ops_done (by kernel_rfl) ⟨hs9, ?_⟩
  refine zA (zi ((bn - 8 * k : Nat) : Int)) 4 hs9 ?_
  refine any_step 5 (by kernel_rfl) (by kernel_rfl) ?_
  have hp_ := part_pos (show 8 * k < bn by omega)
  have hmn_ : mn 8 ((bn - 8 * k : Nat) : Int) = ((partN bn k : Nat) : Int) := mn_part (by omega)
  refine ops_val (v := .int .i64 (mn 8 ((bn - 8 * k : Nat) : Int))) (v' := (zi ((partN bn k : Nat) : Int))) (by kernel_rfl) (congrArg (Value.int .i64) hmn_) ?_
  refine ops_done (by kernel_rfl) ⟨hs9, ?_⟩
  refine zA (zi ((partN bn k : Nat) : Int)) 6 hs9 ?_
  refine any_done (by kernel_rfl) ?_
  refine hK8 _ _ ?_
  refine W.sr fun K10 hK10 => ?_
  refine zR 1 ?_
  refine zL ⟨c1, 0, none⟩ (.slice (some ⟨b0, 0, none⟩) bn bc) (hs9.cellAt 0 rfl rfl) ?_
  refine zR 3 ?_
  have h11 : -9223372036854775808 ≤ (((8 * k : Nat) : Int) + ((partN bn k : Nat) : Int)) ∧ (((8 * k : Nat) : Int) + ((partN bn k : Nat) : Int)) ≤ 9223372036854775807 := by omega
  refine zI _ (wrap_i64 h11.1 h11.2) ?_
  refine zR 2 ?_
  have h12 : -9223372036854775808 ≤ (((8 * k : Nat) : Int) + ((partN bn k : Nat) : Int)) ∧ (((8 * k : Nat) : Int) + ((partN bn k : Nat) : Int)) ≤ 9223372036854775807 := by omega
  refine zI _ (wrap_i64 h12.1 h12.2) ?_
  refine ops_R (runs_slice3 (a := (some ⟨b0, 0, none⟩)) (n := bn) (c := bc) (size := 1) (8 * k) (8 * k + partN bn k) (8 * k + partN bn k) (by omega) (by omega) (by omega) (by kernel_rfl)) ?_
  rw [if_neg (by omega), Nat.add_sub_cancel_left]
  have hs13 := St.f2 hs9
  refine ops_yield (pre := [Y k]) (l := yl) hs13 (by kernel_rfl) (by kernel_rfl) (hy k (by omega) _) ?_
  rintro _ _ w14 (⟨rfl, rfl⟩ | ⟨rfl, rfl⟩) hs15
  ·
   have hs16 : St B w l0 w14 [Y (k + 1), zb c1 149 [(.slice (some ⟨b0, 0, none⟩) bn bc)], zb c2 3 [(zi 8)]] := hs15
   refine zE 1 (hK10 _ _ ?_)
   refine W.cond_false false (by kernel_rfl) rfl ?_
   refine W.skip ?_
   refine normal_block ?_
   refine hK7 _ _ ?_
   refine W.region ?_
   refine zR 1 ?_
   refine zL ⟨c2, 0, none⟩ (zi 8) (hs16.cellAt 2 rfl rfl) ?_
   have h17 : -9223372036854775808 ≤ (((8 * k : Nat) : Int) + 8) ∧ (((8 * k : Nat) : Int) + 8) ≤ 9223372036854775807 := by omega
   refine zI _ (wrap_i64 h17.1 h17.2) ?_
   refine zE 1 ?_
   have hs18 := St.f2 hs16
   have hs19 := St.f2 hs18
   exact ⟨k + 1, ⟨slots_intro _ (by kernel_rfl), hs19, by omega⟩, by omega⟩
  have hs20 : St B w l0 w14 [Z, zb c1 149 [(.slice (some ⟨b0, 0, none⟩) bn bc)], zb c2 3 [(zi 8)]] := hs15
  refine zE 1 (hK10 _ _ ?_)
  refine W.cond_true true (by kernel_rfl) rfl ?_
  refine W.ret (ret_block (ret_seq (ret_seq (ret_block ?_))))
  have hs21 := St.f2 hs20
  have hs22 := St.f2 hs21
  refine ret_of (.tuple #[]) (by kernel_rfl) ⟨_, ⟨rfl, .inr rfl⟩, hs22⟩
 have h6p := of_decide_eq_false h6
 refine W.exit (exit_seq (exit_seq (exit_here ?_)))
 have hn_ : k = (bn + 7) / 8 := by omega
 subst hn_
 refine ret_ofN (.tuple #[]) (by kernel_rfl) ⟨_, ⟨rfl, .inl rfl⟩, hs3⟩
end Go.Proofs.YtmmclabkkigiaaaGreat

set_option maxRecDepth 20000
set_option maxHeartbeats 2000000
namespace Go.Proofs.YtmmclabkkigiaaaGreat
open Go Go.RowKit
theorem back1_spec {b0 q m c1 yl : Nat} {C : Array Value} {e : TypeId} {xs : List Int} {Y : Nat → Asn} {Z : Asn} (B : Nat) (w : World) (hm : m ≤ 8) (hC : ∀ j, j < m → C[8 * q + j]? = some (.int .u8 (xs.getD j 0))) (hy : ∀ k : Nat, k < m → ∀ w', YSpec Tryz.prog yl #[.int .i64 ((m : Int) - 1 - (k : Int)), .int .u8 (xs.getD (m - 1 - k) 0)] B w' [Y k] (fun v H' => (v = .bool true ∧ H' = [Y (k + 1)]) ∨ (v = .bool false ∧ H' = [Z]))) : Spec Tryz.prog 132 #[(.func (.yield yl) #[] #[]), (zp c1)] B w [blk b0 (.cells C e (C.size, C.size + 1)), zb c1 149 [(.slice ((some ⟨b0, 0, none⟩ : Option Addr).map (·.add (8 * q * 1))) m m)], Y 0] (fun v H' => v = .tuple #[] ∧ (H' = [blk b0 (.cells C e (C.size, C.size + 1)), zb c1 149 [(.slice ((some ⟨b0, 0, none⟩ : Option Addr).map (·.add (8 * q * 1))) m m)], Y m] ∨ H' = [blk b0 (.cells C e (C.size, C.size + 1)), zb c1 149 [(.slice ((some ⟨b0, 0, none⟩ : Option Addr).map (·.add (8 * q * 1))) m m)], Z])) := by
 refine spec_W Tryz.func132 rfl fun l0 hs => ?_
 refine W.sr fun K1 hK1 => ?_
 refine zL ⟨c1, 0, none⟩ (.slice ((some ⟨b0, 0, none⟩ : Option Addr).map (·.add (8 * q * 1))) m m) (hs.cellAt 1 rfl rfl) ?_
 refine zR 1 ?_
 refine ops_val (v := .int .i64 (IntKind.i64.wrap ((m : Int) - 1))) (v' := .int .i64 ((m : Int) - 1 - ((0 : Nat) : Int))) (by kernel_rfl) (congrArg (Value.int .i64) ((wrap_i64 (by omega) (by omega)).trans (by omega))) ?_
 refine zE 1 (hK1 _ _ ?_)
 refine W.block ?_
 refine W.loop (G := Nat) (fun | k, s_, w_ => (∃ us, s_ = slots 19 [(0, (.func (.yield yl) #[] #[])), (1, (zp c1)), (3, (zi ((m : Int) - 1 - (k : Int))))] us) ∧ St B w l0 w_ [blk b0 (.cells C e (C.size, C.size + 1)), zb c1 149 [(.slice ((some ⟨b0, 0, none⟩ : Option Addr).map (·.add (8 * q * 1))) m m)], Y k] ∧ (k ≤ m)) (fun k => m - k) 0 ⟨slots_intro _ (by kernel_rfl), hs, by omega⟩ ?_
 rintro k _ w2 ⟨⟨us, rfl⟩, hs3, hk0⟩
 refine W.seq fun K4 hK4 => ?_
 refine W.sr fun K5 hK5 => ?_
 refine zE 2 (hK5 _ _ ?_)
 refine W.cond (decide (((m : Int) - 1 - (k : Int)) ≥ 0)) (by kernel_rfl) (fun h6 => ?_) (fun h6 => ?_)
 ·
  have h6p := of_decide_eq_true h6
  refine W.skip ?_
  refine hK4 _ _ ?_
  refine W.seq fun K7 hK7 => ?_
  refine W.block ?_
  refine W.sr fun K8 hK8 => ?_
  refine zR 2 ?_
  refine zL ⟨c1, 0, none⟩ (.slice ((some ⟨b0, 0, none⟩ : Option Addr).map (·.add (8 * q * 1))) m m) (hs3.cellAt 1 rfl rfl) ?_
  refine zR 1 ?_
  have hkm_ : k < m := by omega
  refine ops_R (v := .pointer (some (adr ((some ⟨b0, 0, none⟩ : Option Addr).map (·.add (8 * q * 1))) ((m - 1 - k) * 1)))) (runs_index (a := ((some ⟨b0, 0, none⟩ : Option Addr).map (·.add (8 * q * 1)))) (n := m) (z := ((m : Int) - 1 - (k : Int))) (size := 1) (m - 1 - k) (by omega) (by omega) ⟨_, rfl⟩ (by kernel_rfl)) ?_
  refine zL (adr ((some ⟨b0, 0, none⟩ : Option Addr).map (·.add (8 * q * 1))) ((m - 1 - k) * 1)) (.int .u8 (xs.getD (m - 1 - k) 0)) (part_cell (hs3.heapAt 0 rfl) (hC (m - 1 - k) (by omega))) ?_
  have hs9 := St.f2 hs3
  refine ops_yield (pre := [Y k]) (l := yl) hs9 (by kernel_rfl) (by kernel_rfl) (hy k (by omega) _) ?_
  rintro _ _ w10 (⟨rfl, rfl⟩ | ⟨rfl, rfl⟩) hs11
  ·
   have hs12 : St B w l0 w10 [Y (k + 1), blk b0 (.cells C e (C.size, C.size + 1)), zb c1 149 [(.slice ((some ⟨b0, 0, none⟩ : Option Addr).map (·.add (8 * q * 1))) m m)]] := hs11
   refine zE 1 (hK8 _ _ ?_)
   refine W.cond_false false (by kernel_rfl) rfl ?_
   refine W.skip ?_
   refine normal_block ?_
   refine hK7 _ _ ?_
   refine W.region ?_
   refine zR 1 ?_
   refine ops_val (v := .int .i64 (IntKind.i64.wrap (((m : Int) - 1 - (k : Int)) - 1))) (v' := .int .i64 ((m : Int) - 1 - ((k + 1 : Nat) : Int))) (by kernel_rfl) (congrArg (Value.int .i64) ((wrap_i64 (by omega) (by omega)).trans (by omega))) ?_
   refine zE 1 ?_
   have hs13 := St.f2 hs12
   have hs14 := St.f2 hs13
   exact ⟨k + 1, ⟨slots_intro _ (by kernel_rfl), hs14, by omega⟩, by omega⟩
  have hs15 : St B w l0 w10 [Z, blk b0 (.cells C e (C.size, C.size + 1)), zb c1 149 [(.slice ((some ⟨b0, 0, none⟩ : Option Addr).map (·.add (8 * q * 1))) m m)]] := hs11
  refine zE 1 (hK8 _ _ ?_)
  refine W.cond_true true (by kernel_rfl) rfl ?_
  refine W.ret (ret_block (ret_seq (ret_seq (ret_block ?_))))
  have hs16 := St.f2 hs15
  have hs17 := St.f2 hs16
  refine ret_of (.tuple #[]) (by kernel_rfl) ⟨_, ⟨rfl, .inr rfl⟩, hs17⟩
 have h6p := of_decide_eq_false h6
 refine W.exit (exit_seq (exit_seq (exit_here ?_)))
 have hn_ : k = m := by omega
 subst hn_
 refine ret_ofN (.tuple #[]) (by kernel_rfl) ⟨_, ⟨rfl, .inl rfl⟩, hs3⟩
end Go.Proofs.YtmmclabkkigiaaaGreat

namespace Go.Proofs.YtmmclabkkigiaaaGreat
open Go Go.RowKit
def shlK (k : IntKind) (x y : Int) : Int := k.wrap (x * 2 ^ (min y.toNat k.bits))
def shrK (k : IntKind) (x y : Int) : Int := x.fdiv (2 ^ (min y.toNat k.bits))
section
variable {P : Program} {ops : Array Oper} {i : Nat} {s : Fs} {w : World}
def shQ (ops : Array Oper) (i : Nat) (s : Fs) : Option (Bool × IntKind × Int × Int) :=
  match opQ ops i s with
  | some o => match o.op with
    | .binOp op _ x y _ => match op, evS s x, evS s y with
      | .shl, .int k a, .int _ b => some (true, k, a, b)
      | .shr, .int k a, .int _ b => some (false, k, a, b)
      | _, _, _ => none
    | _ => none
  | none => none
theorem run_guard_none (op : BinOp) (t : TypeId) (x y : Operand) (a b : Value) (h : op = .shl ∨ op = .shr) (w : World) : (eqGuard op t x y a b).run P w = .ok () w := by
  unfold eqGuard
  rcases h with rfl | rfl <;> rfl
theorem runs_shift {b : Bool} {k : IntKind} {x y : Int} (hq : shQ ops i s = some (b, k, x, y)) (hy : 0 ≤ y) : RunsTo P ops i s w (.int k (match b with | true => shlK k x y | false => shrK k x y)) w := by
  unfold shQ at hq
  split at hq
  · rename_i o ho
    split at hq
    · rename_i op t x' y' yt hop
      refine ⟨o, ho, ?_⟩
      split at hq
      · rename_i k1 a1 k2 b1 hx hy'
        cases hq
        simp only [execOp, hop, hx, hy', Sem.run_bind, run_guard_none _ _ _ _ _ _ (.inl rfl), Result.andThen_ok, binOp, Op.shift, if_neg (Int.not_lt.2 hy), Sem.run_pure]
        rfl
      · rename_i k1 a1 k2 b1 hx hy'
        cases hq
        simp only [execOp, hop, hx, hy', Sem.run_bind, run_guard_none _ _ _ _ _ _ (.inr rfl), Result.andThen_ok, binOp, Op.shift, if_neg (Int.not_lt.2 hy), Sem.run_pure]
        rfl
      · cases hq
    · cases hq
  · cases hq
end
end Go.Proofs.YtmmclabkkigiaaaGreat

set_option maxRecDepth 20000
set_option maxHeartbeats 1000000
namespace Go.Proofs.YtmmclabkkigiaaaGreat
open Go Go.RowKit
def rpack_J2 (tx_ : ByteArray) (k10 : ((List Int) × Nat × Int) → Option (List Int)) (p9 : Int) (q21 : List Int) (n22 : Nat) : Option (List Int) :=
 need (-9223372036854775808 ≤ (p9.tdiv 8) ∧ (p9.tdiv 8) ≤ 9223372036854775807) <|
need (-9223372036854775808 ≤ (p9.tdiv 8) ∧ (p9.tdiv 8) ≤ 9223372036854775807) <|
need (0 ≤ (p9.tdiv 8) ∧ (p9.tdiv 8) < (n22 : Int)) <|
need ((p9.tdiv 8).toNat < q21.length) <|
need (0 ≤ p9 ∧ p9 < (tx_.size : Int)) <|
need (0 ≤ (sbyte tx_ p9) ∧ (sbyte tx_ p9) ≤ 18446744073709551615) <|
need (-9223372036854775808 ≤ (8 * p9.tmod 8) ∧ (8 * p9.tmod 8) ≤ 9223372036854775807) <|
need (0 ≤ (8 * p9.tmod 8) ∧ (8 * p9.tmod 8) ≤ 18446744073709551615) <|
need (0 ≤ (8 * p9.tmod 8)) <|
need (0 ≤ (p9.tdiv 8) ∧ (p9.tdiv 8) < (n22 : Int)) <|
need ((p9.tdiv 8).toNat < q21.length) <|
need (-9223372036854775808 ≤ (p9 + 1) ∧ (p9 + 1) ≤ 9223372036854775807) <|
k10 ((q21.set ((p9.tdiv 8).toNat) (((q21.getD ((p9.tdiv 8).toNat) 0) + (shlK .u64 (sbyte tx_ p9) (8 * p9.tmod 8))) % 18446744073709551616)), n22, (p9 + 1))
def rpack_B0 (tx_ : ByteArray) (k10 : ((List Int) × Nat × Int) → Option (List Int)) (q7 : List Int) (n8 : Nat) (p9 : Int) : Option (List Int) :=
 if p9 < (tx_.size : Int) then (if p9.tmod 8 = 0 then (need (q7.length + 1 ≤ 1000000000) <|
need (n8 = q7.length) <|
rpack_J2 tx_ k10 p9 (q7 ++ [0]) ((q7 ++ [0]).length)) else (rpack_J2 tx_ k10 p9 q7 n8)) else (need (n8 = q7.length) <|
some q7)
def rpack_M (tx_ : ByteArray) : Option (List Int) :=
 iter (fun k_ s_ => rpack_B0 tx_ k_ s_.1 s_.2.1 s_.2.2) FUEL ([], 0, 0)
theorem rpack_walk {tx_ : ByteArray}  {r : List Int} (B : Nat) (w : World) (hm : rpack_M tx_ = some r) : Spec Tryz.prog 59 #[(.string tx_)] B w [] (fun v H' => ∃ a' c', v = .slice a' r.length c' ∧ H' = [kU64.row a' c' r]) := by
 refine spec_Q Tryz.func59 rfl fun hs => ?_
 unfold rpack_M at hm
 refine W.sr fun K1 hK1 => ?_
 refine zE 1 (hK1 _ _ ?_)
 refine W.sr fun K2 hK2 => ?_
 refine zE 1 (hK2 _ _ ?_)
 refine W.seq fun K3 hK3 => ?_
 refine W.sr fun K4 hK4 => ?_
 refine zE 1 (hK4 _ _ ?_)
 refine W.block ?_
 have hs14 := St.knil kU64 hs
 refine W.loop_iter (G := (List Int) × Nat × Int × (Option Addr) × Nat) (σ := (List Int) × Nat × Int) (fun | (q7, n8, p9, m5, m6) => (q7, n8, p9)) (fun | (q7, n8, p9, m5, m6), s_, w_ => (∃ us, s_ = slots 37 [(0, (.string tx_)), (3, (.slice m5 n8 m6)), (4, (zi p9))] us) ∧ St B w [] w_ [kU64.row m5 m6 q7]) ([], 0, 0, none, 0) ⟨slots_intro _ (by kernel_rfl), hs14⟩ hm ?_
 rintro k10 ih11 ⟨q7, n8, p9, m5, m6⟩ _ w12 ⟨⟨us, rfl⟩, hs13⟩ hm
 replace hm : rpack_B0 tx_ k10 q7 n8 p9 = some r := hm
 unfold rpack_B0 at hm
 refine W.seq fun K15 hK15 => ?_
 refine W.sr fun K16 hK16 => ?_
 refine zE 4 (hK16 _ _ ?_)
 refine W.cond (decide (p9 < (tx_.size : Int))) (by kernel_rfl) (fun h17 => ?_) (fun h17 => ?_)
 ·
  obtain ⟨h17p, hm⟩ := iY hm h17
  refine W.skip ?_
  refine hK15 _ _ ?_
  refine W.seq fun K18 hK18 => ?_
  refine W.block ?_
  refine W.seq_join (fun s_ w_ => ∃ (q21 : List Int) (n22 : Nat) (m19 : Option Addr) (m20 : Nat), (∃ us, s_ = slots 37 [(0, (.string tx_)), (3, (.slice m19 n22 m20)), (4, (zi p9))] us) ∧ St B w [] w_ [kU64.row m19 m20 q21] ∧ rpack_J2 tx_ k10 p9 q21 n22 = some r) ?_ ?_
  ·
   rintro _ w23 ⟨q21, n22, m19, m20, ⟨us, rfl⟩, hs24, hm⟩
   unfold rpack_J2 at hm
   have hs25 := hs24.drew
   have hs26 := St.tk0 hs25
   refine W.regionD [(0, 0), (0, 0), (2, 2), (0, 0), (0, 0), (16, 16), (40, 40), (64, 64), (0, 0), (0, 0), (768, 768), (1024, 1024), (0, 0), (4096, 4096), (8192, 8192), (16384, 16384), (34816, 34816), (65664, 65664), (262143, 5), (524287, 393216)] (fun w_ => St B w [] w_ []) (by kernel_rfl) hs26 ?_
   refine zA (.slice m19 n22 m20) 0 hs26 ?_
   refine zA (zi p9) 1 hs26 ?_
   obtain ⟨h27, hm⟩ := need_some hm
   refine any_R (v := .int .i64 (p9.tdiv 8)) 2 (by kernel_rfl) (fun _ hS_ => runs_quo (k := .i64) (a := p9) (b := 8) (by kernel_rfl) (by decide) (wrap_i64 h27.1 h27.2)) hs26 ?_
   refine zA (.slice m19 n22 m20) 3 hs26 ?_
   refine zA (zi p9) 4 hs26 ?_
   obtain ⟨h28, hm⟩ := need_some hm
   refine any_R (v := .int .i64 (p9.tdiv 8)) 5 (by kernel_rfl) (fun _ hS_ => runs_quo (k := .i64) (a := p9) (b := 8) (by kernel_rfl) (by decide) (wrap_i64 h28.1 h28.2)) hs26 ?_
   obtain ⟨h30, hm⟩ := need_some hm
   have hk29 := lt_toNat h30
   obtain ⟨h32, hm⟩ := need_some hm
   have hk31 := h32
   refine any_R 6 (by kernel_rfl) (fun _ hS_ => runs_index (a := m19) (n := n22) (z := (p9.tdiv 8)) (size := 1) ((p9.tdiv 8).toNat) (nat_of h30.1) hk29 (kU64.addr (St.kcells kU64 hs25 0 rfl) hk31) (by kernel_rfl)) hs26 ?_
   refine zA (.string tx_) 8 hs26 ?_
   refine zA (zi p9) 9 hs26 ?_
   obtain ⟨h33, hm⟩ := need_some hm
   refine any_R (v := (.int .u8 (sbyte tx_ p9))) 10 (by kernel_rfl) (fun _ hS_ => runs_strIdx (b := tx_) (k := p9) h33 (by kernel_rfl)) hs26 ?_
   obtain ⟨h34, hm⟩ := need_some hm
   refine any_val (v := .int .u64 (IntKind.u64.wrap (sbyte tx_ p9))) (v' := .int .u64 (sbyte tx_ p9)) 11 (by kernel_rfl) (fun _ => by kernel_rfl) (congrArg (Value.int .u64) (wrap_u64 h34.1 (Int.lt_of_le_of_lt h34.2 (by decide)))) hs26 ?_
   refine zA (zi p9) 12 hs26 ?_
   refine zA (zi (p9.tmod 8)) 13 hs26 ?_
   obtain ⟨h35, hm⟩ := need_some hm
   refine any_val (v := .int .i64 (IntKind.i64.wrap (8 * p9.tmod 8))) (v' := .int .i64 (8 * p9.tmod 8)) 14 (by kernel_rfl) (fun _ => by kernel_rfl) (congrArg (Value.int .i64) (wrap_i64 h35.1 h35.2)) hs26 ?_
   obtain ⟨h36, hm⟩ := need_some hm
   refine any_val (v := .int .u64 (IntKind.u64.wrap (8 * p9.tmod 8))) (v' := .int .u64 (8 * p9.tmod 8)) 15 (by kernel_rfl) (fun _ => by kernel_rfl) (congrArg (Value.int .u64) (wrap_u64 h36.1 (Int.lt_of_le_of_lt h36.2 (by decide)))) hs26 ?_
   obtain ⟨h37, hm⟩ := need_some hm
   refine any_R (v := .int .u64 (shlK .u64 (sbyte tx_ p9) (8 * p9.tmod 8))) 16 (by kernel_rfl) (fun _ hS_ => runs_shift (b := true) (k := .u64) (x := (sbyte tx_ p9)) (y := (8 * p9.tmod 8)) (by kernel_rfl) h37) hs26 ?_
   refine any_step 7 (by kernel_rfl) (by kernel_rfl) ?_
   refine zL ((adr m19 (((p9.tdiv 8).toNat) * 1)).add 0) (zu (q21.getD ((p9.tdiv 8).toNat) 0)) (kU64.at (St.kcells kU64 hs25 0 rfl) hk31 0 0 rfl) ?_
   have hs38 := St.tk0 hs25
   refine ops_done (by kernel_rfl) ⟨hs38, ?_⟩
   refine any_val (v := .int .u64 (IntKind.u64.wrap ((q21.getD ((p9.tdiv 8).toNat) 0) + (shlK .u64 (sbyte tx_ p9) (8 * p9.tmod 8))))) (v' := .int .u64 (((q21.getD ((p9.tdiv 8).toNat) 0) + (shlK .u64 (sbyte tx_ p9) (8 * p9.tmod 8))) % 18446744073709551616)) 17 (by kernel_rfl) (fun _ => by kernel_rfl) (congrArg (Value.int .u64) (wrap_u64_mod _)) hs38 ?_
   obtain ⟨h40, hm⟩ := need_some hm
   have hk39 := lt_toNat h40
   obtain ⟨h42, hm⟩ := need_some hm
   have hk41 := h42
   refine any_R 18 (by kernel_rfl) (fun _ hS_ => runs_index (a := m19) (n := n22) (z := (p9.tdiv 8)) (size := 1) ((p9.tdiv 8).toNat) (nat_of h40.1) hk39 (kU64.addr (St.kcells kU64 hs25 0 rfl) hk41) (by kernel_rfl)) hs38 ?_
   refine any_step 19 (by kernel_rfl) (by kernel_rfl) ?_
   refine ops_storeK kU64 (j := 0) (vs := [(zu (((q21.getD ((p9.tdiv 8).toNat) 0) + (shlK .u64 (sbyte tx_ p9) (8 * p9.tmod 8))) % 18446744073709551616))]) 0 (((q21.getD ((p9.tdiv 8).toNat) 0) + (shlK .u64 (sbyte tx_ p9) (8 * p9.tmod 8))) % 18446744073709551616) hs25 hk41 (Nat.le_of_ble_eq_true rfl) (by simp) rfl rfl (by kernel_rfl) (fun w43 hs44 => ?_)
   have hs46 := St.tk0 hs44
   refine ops_done (by kernel_rfl) ⟨hs46, ?_⟩
   refine any_done (by kernel_rfl) ?_
   refine normal_block ?_
   refine hK18 _ _ ?_
   refine W.region ?_
   refine zR 1 ?_
   obtain ⟨h47, hm⟩ := need_some hm
   refine zI _ (wrap_i64 h47.1 h47.2) ?_
   refine zE 1 ?_
   refine loopAt_next ?_
   exact ih11 ((q21.set ((p9.tdiv 8).toNat) (((q21.getD ((p9.tdiv 8).toNat) 0) + (shlK .u64 (sbyte tx_ p9) (8 * p9.tmod 8))) % 18446744073709551616)), n22, (p9 + 1), m19, m20) _ _ ⟨slots_intro _ (by kernel_rfl), hs44⟩ hm
  refine W.sr fun K48 hK48 => ?_
  refine zE 3 (hK48 _ _ ?_)
  refine W.cond (decide (p9.tmod 8 = 0)) (by kernel_rfl) (fun h49 => ?_) (fun h49 => ?_)
  ·
   obtain ⟨h49p, hm⟩ := iY hm h49
   refine W.region ?_
   refine zR 1 ?_
   refine ops_new (fun b => .slice (some ⟨b, 0, none⟩) 1 1) (.cells [(zu 0)].toArray 34 (0, 0)) hs13 (by kernel_rfl) (fun b52 w50 hs51 => ?_)
   have hs53 := St.f1 hs51
   obtain ⟨h58, hm⟩ := need_some hm
   obtain ⟨h59, hm⟩ := need_some hm
   refine ops_appendKn kU64 (bytes := 8) (a' := (some ⟨b52, 0, none⟩)) (c' := 1) (l := q7) (m := [0]) hs53 h59 rfl (by kernel_rfl) (by simp) (cells_blk (hs53.heapAt 1 rfl)) (by unfold maxLen; (try simp only [List.length_cons, List.length_nil]); omega) (by (try simp only [List.length_cons, List.length_nil]); omega) (fun a54 c55 w56 hs57 => ?_)
   refine zE 1 ?_
   have hs60 := St.tk1 hs57
   exact ⟨(q7 ++ [0]), ((q7 ++ [0]).length), a54, c55, slots_intro _ (by kernel_rfl), hs60, hm⟩
  obtain ⟨h49p, hm⟩ := iN hm h49
  refine W.skip ?_
  exact ⟨q7, n8, m5, m6, slots_intro _ (by kernel_rfl), hs13, hm⟩
 obtain ⟨h17p, hm⟩ := iN hm h17
 refine W.exit (exit_seq (exit_seq (exit_here ?_)))
 refine hK3 _ _ ?_
 refine W.sr fun K61 hK61 => ?_
 refine zE 2 (hK61 _ _ ?_)
 refine W.ret ?_
 obtain ⟨h62, hm⟩ := need_some hm
 obtain rfl := some_inj hm
 refine ret_of (.slice m5 n8 m6) (by kernel_rfl) ⟨_, ⟨m5, m6, (by rw [h62]), rfl⟩, hs13⟩
end Go.Proofs.YtmmclabkkigiaaaGreat

set_option maxRecDepth 20000
set_option maxHeartbeats 2000000
namespace Go.Proofs.YtmmclabkkigiaaaGreat
open Go Go.RowKit
def opack_D27 (q25 : List Int) : Option (List Int) :=
 some q25
def opack_J3 (c22 : (List Int) → Option (List Int)) (q25 : List Int) (p72 : Int) : Option (List Int) :=
 need (q25.length + 1 ≤ 1000000000) <|
c22 (q25 ++ [p72])
def opack_D108 (c22 : (List Int) → Option (List Int)) (q25 : List Int) (p107 : Int) : Option (List Int) :=
 opack_J3 c22 q25 p107
def opack_R108 (tx_ : ByteArray) (k21 : Nat) (k99 : Nat) (c100 : Int → Option (List Int)) (p107 : Int) : Option (List Int) :=
 (some (((strNums tx_).drop (8 * k21)).getD ((partN tx_.size k21) - 1 - k99) 0)).bind fun r135 =>
need (0 ≤ r135 ∧ r135 ≤ 18446744073709551615) <|
c100 (bits .or .u64 (shlK .u64 p107 8) r135)
def opack_R27 (tx_ : ByteArray) (k21 : Nat) (c22 : (List Int) → Option (List Int)) (q25 : List Int) : Option (List Int) :=
 rounds (fun k_ c_ s_ => opack_R108 tx_ k21 k_ c_ s_) (fun s_ => opack_D108 c22 q25 s_) (partN tx_.size k21) 0 0
def opack_M (tx_ : ByteArray) : Option (List Int) :=
 need (tx_.size ≤ 1000000) <|
rounds (fun k_ c_ s_ => opack_R27 tx_ k_ c_ s_) (fun s_ => opack_D27 s_) ((tx_.size + 7) / 8) 0 ([])
theorem opack_walk {tx_ : ByteArray}  {r : List Int} (B : Nat) (w : World) (hm : opack_M tx_ = some r) : Spec Tryz.prog 97 #[(.string tx_)] B w [] (fun v H' => ∃ a' c', v = .slice a' r.length c' ∧ H' = [kU64.row a' c' r]) := by
 refine spec_Q Tryz.func97 rfl fun hs => ?_
 unfold opack_M at hm
 refine W.sr fun K1 hK1 => ?_
 refine zN [(.slice none 0 0)] 31 hs fun b4 w2 hs3 => ?_
 refine zD (hK1 _ _ ?_)
 refine W.seq fun K5 hK5 => ?_
 refine W.sr fun K6 hK6 => ?_
 refine zR 1 ?_
 refine ops_strBytes (b := tx_) (e := 5) hs3 (by kernel_rfl) (fun b7 c8 C9 w10 hc11 hC12 hs13 => ?_)
 refine ops_call0 hs13 (by kernel_rfl) (chunk_spec (ba := (some ⟨b7, 0, none⟩)) (bn := tx_.size) (bc := c8) B _) ?_
 rintro _ _ w16 ⟨b14, b15, rfl, rfl⟩ hs17
 have hs18 := St.ap2 hs17
 refine zD (hK6 _ _ ?_)
 refine W.block ?_
 obtain ⟨h19, hm⟩ := need_some hm
 refine W.norm (n := 25) (l := [(2, (zp b4)), (9, (.func (.func 131) #[] #[(zp b14), (zp b15)]))]) (by kernel_rfl) (fun us20 => ?_)
 have hs26 := St.knil kU64 hs18
 have hs32 := St.f4 hs26
 have hs33 := St.f1 hs32
 have hs34 := St.f4 hs33
 have hs35 := St.f4 hs34
 have hs36 := St.f4 hs35
 have hF37 : rounds (fun k_ c_ s_ => opack_R27 tx_ k_ c_ s_) (fun s_ => opack_D27 s_) (((tx_.size + 7) / 8) - 0) 0 ([]) = some r := by rw [Nat.sub_zero]; exact hm
 clear hm
 refine W.roundsA (G := (List Int) × (Option Addr) × Nat) (GZ := Unit) (gf := 131) (lb := #[(zp b14), (zp b15)]) ((tx_.size + 7) / 8) (fun k_ (q25, m23, m24) => rounds (fun k_ c_ s_ => opack_R27 tx_ k_ c_ s_) (fun s_ => opack_D27 s_) (((tx_.size + 7) / 8) - k_) k_ q25 = some r) (fun (q25, m23, m24) => [blk b7 (.cells C9 5 (C9.size, C9.size + 1)), kU64.row m23 m24 q25, zb b4 31 [(.slice m23 q25.length m24)]]) .ret (fun (_ : Unit) => False) (fun _ => []) [zb b14 149 [(.slice (some ⟨b7, 0, none⟩) tx_.size c8)], zb b15 3 [(zi 8)]] (fun k_ => #[(.slice ((some ⟨b7, 0, none⟩ : Option Addr).map (·.add (8 * k_ * 1))) (partN tx_.size k_) (partN tx_.size k_))]) (fun k_ l_ => slotsD 25 ((10, (.slice ((some ⟨b7, 0, none⟩ : Option Addr).map (·.add (8 * k_ * 1))) (partN tx_.size k_) (partN tx_.size k_))) :: [(2, (zp b4)), (9, (.func (.func 131) #[] #[(zp b14), (zp b15)]))]) us20 (some l_) []) ([], none, 0) hF37 hs36 rfl (by kernel_rfl) (fun _ _ => by kernel_rfl) (fun _ => rfl) (fun a_ k_ l_ h1_ h2_ => ⟨rel_round1 (n := 25) (by decide) h1_ h2_, rfl⟩) (fun l_ => #[.func (.yield l_) #[] #[], (zp b14), (zp b15)]) (fun _ => rfl) (fun l_ w_ Y_ Z_ hy_ => chunk1_spec (yl := l_) (Y := Y_) (Z := Z_) (hbc := hc11) (hbm := h19) (hy := fun k_ h_ w_ => hy_ k_ (by omega) w_) _ w_) ?_ ?_ ?_
 rotate_left
 ·
  rintro D31 w38 ⟨q25, m23, m24⟩ hF40 hs39
  replace hF40 : rounds (fun k_ c_ s_ => opack_R27 tx_ k_ c_ s_) (fun s_ => opack_D27 s_) (((tx_.size + 7) / 8) - ((tx_.size + 7) / 8)) ((tx_.size + 7) / 8) q25 = some r := hF40
  rw [rounds_end] at hF40
  have hm : opack_D27 q25 = some r := hF40
  clear hF40
  unfold opack_D27 at hm
  have hs41 : St B w [] w38 [blk D31 (.deferred (some [])), zb b14 149 [(.slice (some ⟨b7, 0, none⟩) tx_.size c8)], zb b15 3 [(zi 8)], blk b7 (.cells C9 5 (C9.size, C9.size + 1)), kU64.row m23 m24 q25, zb b4 31 [(.slice m23 q25.length m24)]] := hs39
  refine normal_block ?_
  refine hK5 _ _ ?_
  refine W.sr fun K42 hK42 => ?_
  refine zL ⟨b4, 0, none⟩ (.slice m23 q25.length m24) (hs41.cellAt 5 rfl rfl) ?_
  have hs45 := St.f5 hs41
  refine zT 0 [(.slice m23 q25.length m24)] [(.slice m23 q25.length m24)] hs45 fun w43 hs46 => ?_
  refine zD (hK42 _ _ ?_)
  refine W.ret ?_
  obtain rfl := some_inj hm
  have hs47 := St.f5 hs46
  have hs48 := St.f5 hs47
  have hs49 := St.f5 hs48
  have hs50 := St.f5 hs49
  have hs51 := St.f4 hs50
  have hs52 := St.f5 hs51
  refine leave_mark (D := D31) (v := (.slice m23 q25.length m24)) hs52 (by kernel_rfl) (fun w53 hs54 => (resD_one rfl (.cell (ad := ⟨b4, 0, none⟩) (by kernel_rfl) (by kernel_rfl) (hs54.cellAt 0 rfl rfl)))) (fun w53 hs54 => ?_)
  have hs55 := St.f4 hs54
  have hs56 := St.tk1 hs55
  exact ⟨_, ⟨m23, m24, rfl, rfl⟩, hs56⟩
 ·
  rintro _ _ _ h_ _
  exact h_.elim
 rintro k21 hk57 rc29 l28 w58 ⟨q25, m23, m24⟩ hF62 lf59 hs60 K61 hK61
 replace hF62 : rounds (fun k_ c_ s_ => opack_R27 tx_ k_ c_ s_) (fun s_ => opack_D27 s_) (((tx_.size + 7) / 8) - k21) k21 q25 = some r := hF62
 rw [rounds_at hk57] at hF62
 obtain ⟨c22, hc22⟩ : ∃ c_, c_ = rounds (fun k_ c_ s_ => opack_R27 tx_ k_ c_ s_) (fun s_ => opack_D27 s_) (((tx_.size + 7) / 8) - (k21 + 1)) (k21 + 1) := ⟨_, rfl⟩
 rw [← hc22] at hF62
 have hm : opack_R27 tx_ k21 c22 q25 = some r := hF62
 clear hF62
 unfold opack_R27 at hm
 refine W.region ?_
 refine zE 1 ?_
 refine hK61 _ _ hs60 (fun w63 hs64 => ?_)
 refine W.block ?_
 refine W.sr fun K65 hK65 => ?_
 refine zN [(zu 0)] 34 hs64 fun b68 w66 hs67 => ?_
 refine zT 0 [(zu 0)] [(zu 0)] hs67 fun w69 hs71 => ?_
 refine zD (hK65 _ _ ?_)
 refine W.seq_join (fun s_ w_ => ∃ (p72 : Int), (∃ us, s_ = slotsD 25 [(2, (zp b4)), (4, (zp b68))] us (some l28) []) ∧ St B w58 lf59 w_ [kU64.row m23 m24 q25, zb b4 31 [(.slice m23 q25.length m24)], zb b68 34 [(zu p72)], blk l28 (.loop { rc29 with state := .busy }), blk b7 (.cells C9 5 (C9.size, C9.size + 1))] ∧ opack_J3 c22 q25 p72 = some r) ?_ ?_
 ·
  rintro _ w73 ⟨p72, ⟨us, rfl⟩, hs74, hm⟩
  unfold opack_J3 at hm
  refine W.region ?_
  refine zL ⟨b4, 0, none⟩ (.slice m23 q25.length m24) (hs74.cellAt 1 rfl rfl) ?_
  refine zL ⟨b68, 0, none⟩ (zu p72) (hs74.cellAt 2 rfl rfl) ?_
  refine ops_new (fun b => .slice (some ⟨b, 0, none⟩) 1 1) (.cells [(zu p72)].toArray 34 (0, 0)) hs74 (by kernel_rfl) (fun b77 w75 hs76 => ?_)
  have hs78 := St.f1 hs76
  obtain ⟨h83, hm⟩ := need_some hm
  refine ops_appendK kU64 (bytes := 8) (a' := (some ⟨b77, 0, none⟩)) (c' := 1) (l := q25) (m := [p72]) hs78 (by kernel_rfl) (by simp) (cells_blk (hs78.heapAt 1 rfl)) (by unfold maxLen; (try simp only [List.length_cons, List.length_nil]); omega) (by (try simp only [List.length_cons, List.length_nil]); omega) (fun a79 c80 w81 hs82 => ?_)
  have hs86 := St.f2 hs82
  refine zT 0 [(.slice a79 ((q25 ++ [p72]).length) c80)] [(.slice a79 ((q25 ++ [p72]).length) c80)] hs86 fun w84 hs87 => ?_
  refine zD ?_
  refine normal_block ?_
  have hs88 := St.f1 hs87
  have hs89 := St.f5 hs88
  have hs90 := St.f5 hs89
  have hs91 := St.tk4 hs90
  rw [hc22] at hm
  exact ⟨((q25 ++ [p72]), a79, c80), hm, hs91⟩
 refine W.sr fun K92 hK92 => ?_
 refine zR 1 ?_
 refine ops_call0 hs71 (by kernel_rfl) (back_spec (ba := ((some ⟨b7, 0, none⟩ : Option Addr).map (·.add (8 * k21 * 1)))) (bn := (partN tx_.size k21)) (bc := (partN tx_.size k21)) B _) ?_
 rintro _ _ w94 ⟨b93, rfl, rfl⟩ hs95
 have hs96 := St.ap1 hs95
 refine zD (hK92 _ _ ?_)
 refine W.block ?_
 have hp97 := part_pos (n := tx_.size) (k := k21) (by omega)
 refine W.normD (n := 25) (r := some l28) (d := []) (l := [(2, (zp b4)), (4, (zp b68)), (12, (.func (.func 132) #[] #[(zp b93)]))]) (by kernel_rfl) (fun us98 => ?_)
 have hs101 := St.f2 hs96
 have hs102 := St.f5 hs101
 have hs103 := St.f5 hs102
 have hs104 := St.f4 hs103
 have hs105 := St.f4 hs104
 have hs106 := St.f5 hs105
 have hs113 := St.f5 hs106
 have hs114 := St.f5 hs113
 have hs115 := St.f5 hs114
 have hs116 := St.f5 hs115
 have hs117 := St.f5 hs116
 have hs118 := St.f5 hs117
 have hF119 : rounds (fun k_ c_ s_ => opack_R108 tx_ k21 k_ c_ s_) (fun s_ => opack_D108 c22 q25 s_) ((partN tx_.size k21) - 0) 0 0 = some r := by rw [Nat.sub_zero]; exact hm
 clear hm
 refine W.roundsIn (G := Int) (GZ := Unit) (gf := 132) (lb := #[(zp b93)]) (partN tx_.size k21) (fun k_ p107 => rounds (fun k_ c_ s_ => opack_R108 tx_ k21 k_ c_ s_) (fun s_ => opack_D108 c22 q25 s_) ((partN tx_.size k21) - k_) k_ p107 = some r) (fun p107 => [zb b68 34 [(zu p107)], kU64.row m23 m24 q25, zb b4 31 [(.slice m23 q25.length m24)]]) .ret (fun (_ : Unit) => False) (fun _ => []) [blk b7 (.cells C9 5 (C9.size, C9.size + 1)), zb b93 149 [(.slice ((some ⟨b7, 0, none⟩ : Option Addr).map (·.add (8 * k21 * 1))) (partN tx_.size k21) (partN tx_.size k21))]] (fun k_ => #[(zi (((partN tx_.size k21) : Int) - 1 - (k_ : Int))), (.int .u8 (((strNums tx_).drop (8 * k21)).getD ((partN tx_.size k21) - 1 - k_) 0))]) (fun k_ l_ => slotsD 25 ((14, (.int .u8 (((strNums tx_).drop (8 * k21)).getD ((partN tx_.size k21) - 1 - k_) 0))) :: (13, (zi (((partN tx_.size k21) : Int) - 1 - (k_ : Int)))) :: [(2, (zp b4)), (4, (zp b68)), (12, (.func (.func 132) #[] #[(zp b93)]))]) us98 (some l_) []) 0 hF119 hs118 rfl (by kernel_rfl) (fun _ _ => by kernel_rfl) (fun _ => rfl) (fun a_ k_ l_ h1_ h2_ => ⟨rel_round2 (n := 25) (by decide) (by decide) h1_ h2_, rfl⟩) (fun l_ => #[.func (.yield l_) #[] #[], (zp b93)]) (fun _ => rfl) (fun l_ w_ Y_ Z_ hy_ => back1_spec (yl := l_) (q := k21) (Y := Y_) (Z := Z_) (hm := hp97.2.1) (hC := drop_bytes hC12 (by omega)) (hy := fun k_ h_ w_ => hy_ k_ h_ w_) _ w_) ?_ ?_ ?_
 rotate_left
 ·
  rintro  w120 p107 hF122 hs121
  replace hF122 : rounds (fun k_ c_ s_ => opack_R108 tx_ k21 k_ c_ s_) (fun s_ => opack_D108 c22 q25 s_) ((partN tx_.size k21) - (partN tx_.size k21)) (partN tx_.size k21) p107 = some r := hF122
  rw [rounds_end] at hF122
  have hm : opack_D108 c22 q25 p107 = some r := hF122
  clear hF122
  unfold opack_D108 at hm
  have hs123 : St B w58 lf59 w120 [blk b7 (.cells C9 5 (C9.size, C9.size + 1)), zb b93 149 [(.slice ((some ⟨b7, 0, none⟩ : Option Addr).map (·.add (8 * k21 * 1))) (partN tx_.size k21) (partN tx_.size k21))], zb b68 34 [(zu p107)], kU64.row m23 m24 q25, zb b4 31 [(.slice m23 q25.length m24)], blk l28 (.loop { rc29 with state := .busy })] := hs121
  refine normal_block ?_
  have hs124 := St.f5 hs123
  have hs125 := St.f3 hs124
  have hs126 := St.f5 hs125
  have hs127 := St.f5 hs126
  have hs128 := St.tk5 hs127
  exact ⟨p107, slotsD_intro _ (by kernel_rfl), hs128, hm⟩
 ·
  rintro _ _ h_ _
  exact h_.elim
 rintro k99 hk129 rc110 l109 w130 p107 hF134 lf131 hs132 K133 hK133
 replace hF134 : rounds (fun k_ c_ s_ => opack_R108 tx_ k21 k_ c_ s_) (fun s_ => opack_D108 c22 q25 s_) ((partN tx_.size k21) - k99) k99 p107 = some r := hF134
 rw [rounds_at hk129] at hF134
 obtain ⟨c100, hc100⟩ : ∃ c_, c_ = rounds (fun k_ c_ s_ => opack_R108 tx_ k21 k_ c_ s_) (fun s_ => opack_D108 c22 q25 s_) ((partN tx_.size k21) - (k99 + 1)) (k99 + 1) := ⟨_, rfl⟩
 rw [← hc100] at hF134
 have hm : opack_R108 tx_ k21 k99 c100 p107 = some r := hF134
 clear hF134
 unfold opack_R108 at hm
 refine W.region ?_
 refine zR 1 ?_
 obtain ⟨r135, h136, hm⟩ := bind_some hm
 replace h136 := some_inj h136
 refine ops_set 6 (v := .int .u8 r135) (Eq.trans (by kernel_rfl) (congrArg (Value.int .u8) h136)) ?_
 refine zD ?_
 refine hK133 _ _ hs132 (fun w137 hs138 => ?_)
 refine W.block ?_
 refine W.region ?_
 refine zL ⟨b68, 0, none⟩ (zu p107) (hs138.cellAt 1 rfl rfl) ?_
 refine zR 2 ?_
 obtain ⟨h139, hm⟩ := need_some hm
 refine zI _ (wrap_u64 h139.1 (Int.lt_of_le_of_lt h139.2 (by decide))) ?_
 refine zR 1 ?_
 have hs142 := St.f1 hs138
 refine zT 0 [(zu (bits .or .u64 (shlK .u64 p107 8) r135))] [(zu (bits .or .u64 (shlK .u64 p107 8) r135))] hs142 fun w140 hs143 => ?_
 refine zD ?_
 refine normal_block ?_
 have hs144 := St.f3 hs143
 have hs145 := St.f3 hs144
 have hs146 := St.f2 hs145
 have hs147 := St.f3 hs146
 rw [hc100] at hm
 exact ⟨(bits .or .u64 (shlK .u64 p107 8) r135), hm, hs147⟩
end Go.Proofs.YtmmclabkkigiaaaGreat

set_option maxRecDepth 20000
set_option maxHeartbeats 1000000
namespace Go.Proofs.YtmmclabkkigiaaaGreat
open Go Go.RowKit
def unpack_B0 (ws : List Int) (n_ : Int) (k18 : ((List Int) × Int) → Option (ByteArray × Int)) (q16 : List Int) (p17 : Int) : Option (ByteArray × Int) :=
 if p17 < (n_.toNat : Int) then (need (-9223372036854775808 ≤ (p17.tdiv 8) ∧ (p17.tdiv 8) ≤ 9223372036854775807) <|
need (0 ≤ (p17.tdiv 8) ∧ (p17.tdiv 8) < (ws.length : Int)) <|
need (-9223372036854775808 ≤ (8 * p17.tmod 8) ∧ (8 * p17.tmod 8) ≤ 9223372036854775807) <|
need (0 ≤ (8 * p17.tmod 8)) <|
need (0 ≤ p17 ∧ p17 < (n_.toNat : Int)) <|
need (p17.toNat < q16.length) <|
need (-9223372036854775808 ≤ (p17 + 1) ∧ (p17 + 1) ≤ 9223372036854775807) <|
k18 ((q16.set p17.toNat ((shrK .u64 (ws.getD ((p17.tdiv 8).toNat) 0) (8 * p17.tmod 8)) % 256)), (p17 + 1))) else (need (n_.toNat = q16.length) <|
some ((strOfNums q16), 0))
def unpack_M (ws : List Int) (n_ : Int) : Option (ByteArray × Int) :=
 if n_ < 0 then (some (ByteArray.empty, 1)) else (need (-9223372036854775808 ≤ (8 * (ws.length : Int)) ∧ (8 * (ws.length : Int)) ≤ 9223372036854775807) <|
if n_ > (8 * (ws.length : Int)) then (some (ByteArray.empty, 1)) else (need (n_ ≤ 1000000000) <|
iter (fun k_ s_ => unpack_B0 ws n_ k_ s_.1 s_.2) FUEL ((List.replicate n_.toNat (0 : Int)), 0)))
theorem unpack_walk {ws : List Int} {n_ : Int} {wa : Option Addr} {wc : Nat} {r : ByteArray × Int} (B : Nat) (w : World) (hw : CellsAt wa (kU64.cells ws) w) (hm : unpack_M ws n_ = some r) : Spec Tryz.prog 100 #[(.slice wa ws.length wc), (zi n_)] B w [] (fun v H' => v = .tuple #[.string r.1, .int .i64 r.2] ∧ H' = []) := by
 refine spec_Q Tryz.func100 rfl fun hs => ?_
 unfold unpack_M at hm
 refine W.sr fun K1 hK1 => ?_
 refine zE 2 (hK1 _ _ ?_)
 refine W.seq fun K2 hK2 => ?_
 refine W.sr fun K3 hK3 => ?_
 refine zR 3 ?_
 rcases Bool.eq_false_or_eq_true (decide (n_ < 0)) with h4 | h4
 ·
  obtain ⟨h4p, hm⟩ := iY hm h4
  refine zS 10 h4 ?_
  refine zS 9 h4 ?_
  refine zE 6 (hK3 _ _ ?_)
  refine W.cond_true true (by kernel_rfl) rfl ?_
  refine W.sr fun K5 hK5 => ?_
  refine zE 2 (hK5 _ _ ?_)
  refine W.ret (ret_seq ?_)
  obtain rfl := some_inj hm
  refine ret_of (.tuple #[(.string ByteArray.empty), (zi 1)]) (by kernel_rfl) ⟨_, ⟨rfl, rfl⟩, hs⟩
 obtain ⟨h4p, hm⟩ := iN hm h4
 refine zS 10 h4 ?_
 refine zS 9 h4 ?_
 refine zR 3 ?_
 obtain ⟨h6, hm⟩ := need_some hm
 refine zI _ (wrap_i64 h6.1 h6.2) ?_
 refine zE 2 (hK3 _ _ ?_)
 refine W.cond (decide (n_ > (8 * (ws.length : Int)))) (by kernel_rfl) (fun h7 => ?_) (fun h7 => ?_)
 ·
  obtain ⟨h7p, hm⟩ := iY hm h7
  refine W.sr fun K8 hK8 => ?_
  refine zE 2 (hK8 _ _ ?_)
  refine W.ret (ret_seq ?_)
  obtain rfl := some_inj hm
  refine ret_of (.tuple #[(.string ByteArray.empty), (zi 1)]) (by kernel_rfl) ⟨_, ⟨rfl, rfl⟩, hs⟩
 obtain ⟨h7p, hm⟩ := iN hm h7
 refine W.skip ?_
 refine hK2 _ _ ?_
 refine W.sr fun K9 hK9 => ?_
 refine zR 1 ?_
 obtain ⟨h13, hm⟩ := need_some hm
 refine ops_makeSlice kU8 0 (z := n_) (bytes := 1) n_.toNat (nat_of (by omega)) hs (by kernel_rfl) (by omega) (by unfold maxLen; omega) (fun b10 w11 hs12 => ?_)
 refine zE 1 (hK9 _ _ ?_)
 refine W.seq fun K14 hK14 => ?_
 refine W.sr fun K15 hK15 => ?_
 refine zE 3 (hK15 _ _ ?_)
 refine W.block ?_
 refine W.loop_iter (G := (List Int) × Int) (σ := (List Int) × Int) (fun | (q16, p17) => (q16, p17)) (fun | (q16, p17), s_, w_ => (∃ us, s_ = slots 40 [(0, (.slice wa ws.length wc)), (6, (.slice (some ⟨b10, 0, none⟩) n_.toNat n_.toNat)), (20, (zi (n_.toNat : Int))), (21, (zi p17))] us) ∧ St B w [] w_ [kU8.row (some ⟨b10, 0, none⟩) n_.toNat q16]) ((List.replicate n_.toNat (0 : Int)), 0) ⟨slots_intro _ (by kernel_rfl), hs12⟩ hm ?_
 rintro k18 ih19 ⟨q16, p17⟩ _ w20 ⟨⟨us, rfl⟩, hs21⟩ hm
 replace hm : unpack_B0 ws n_ k18 q16 p17 = some r := hm
 unfold unpack_B0 at hm
 refine W.sr fun K22 hK22 => ?_
 refine zE 1 (hK22 _ _ ?_)
 refine W.seq fun K23 hK23 => ?_
 refine W.cond (decide (p17 < (n_.toNat : Int))) (by kernel_rfl) (fun h24 => ?_) (fun h24 => ?_)
 ·
  obtain ⟨h24p, hm⟩ := iY hm h24
  refine W.skip ?_
  refine hK23 _ _ ?_
  refine W.seq fun K25 hK25 => ?_
  refine W.block ?_
  refine W.sr fun K26 hK26 => ?_
  refine zE 2 (hK26 _ _ ?_)
  refine W.region ?_
  refine zR 4 ?_
  obtain ⟨h27, hm⟩ := need_some hm
  refine ops_R (v := .int .i64 (p17.tdiv 8)) (runs_quo (k := .i64) (a := p17) (b := 8) (by kernel_rfl) (by decide) (wrap_i64 h27.1 h27.2)) ?_
  obtain ⟨h29, hm⟩ := need_some hm
  have hk28 := lt_toNat h29
  refine ops_R (runs_index (a := wa) (n := ws.length) (z := (p17.tdiv 8)) (size := 1) ((p17.tdiv 8).toNat) (nat_of h29.1) hk28 (kU64.addr (hs21.oldCells hw) hk28) (by kernel_rfl)) ?_
  refine zL ((adr wa (((p17.tdiv 8).toNat) * 1)).add 0) (zu (ws.getD ((p17.tdiv 8).toNat) 0)) (kU64.at (hs21.oldCells hw) hk28 0 0 rfl) ?_
  refine zR 2 ?_
  obtain ⟨h30, hm⟩ := need_some hm
  refine zI _ (wrap_i64 h30.1 h30.2) ?_
  obtain ⟨h31, hm⟩ := need_some hm
  refine ops_R (v := .int .u64 (shrK .u64 (ws.getD ((p17.tdiv 8).toNat) 0) (8 * p17.tmod 8))) (runs_shift (b := false) (k := .u64) (x := (ws.getD ((p17.tdiv 8).toNat) 0)) (y := (8 * p17.tmod 8)) (by kernel_rfl) h31) ?_
  refine ops_val (v := .int .u8 (IntKind.u8.wrap (shrK .u64 (ws.getD ((p17.tdiv 8).toNat) 0) (8 * p17.tmod 8)))) (v' := .int .u8 ((shrK .u64 (ws.getD ((p17.tdiv 8).toNat) 0) (8 * p17.tmod 8)) % 256)) (by kernel_rfl) (congrArg (Value.int .u8) (wrap_u8_mod _)) ?_
  obtain ⟨h33, hm⟩ := need_some hm
  have hk32 := lt_toNat h33
  obtain ⟨h35, hm⟩ := need_some hm
  have hk34 := h35
  refine ops_R (runs_index (a := (some ⟨b10, 0, none⟩)) (n := n_.toNat) (z := p17) (size := 1) p17.toNat (nat_of h33.1) hk32 (kU8.addr (St.kcells kU8 hs21 0 rfl) hk34) (by kernel_rfl)) ?_
  refine ops_storeK kU8 (j := 0) (vs := [(.int .u8 ((shrK .u64 (ws.getD ((p17.tdiv 8).toNat) 0) (8 * p17.tmod 8)) % 256))]) 0 ((shrK .u64 (ws.getD ((p17.tdiv 8).toNat) 0) (8 * p17.tmod 8)) % 256) hs21 hk34 (Nat.le_of_ble_eq_true rfl) (by simp) rfl rfl (by kernel_rfl) (fun w36 hs37 => ?_)
  refine zD ?_
  refine normal_block ?_
  refine hK25 _ _ ?_
  refine W.region ?_
  obtain ⟨h39, hm⟩ := need_some hm
  refine zI _ (wrap_i64 h39.1 h39.2) ?_
  refine zE 1 ?_
  refine loopAt_next ?_
  exact ih19 ((q16.set p17.toNat ((shrK .u64 (ws.getD ((p17.tdiv 8).toNat) 0) (8 * p17.tmod 8)) % 256)), (p17 + 1)) _ _ ⟨slots_intro _ (by kernel_rfl), hs37⟩ hm
 obtain ⟨h24p, hm⟩ := iN hm h24
 refine W.exit (exit_seq (exit_seq (exit_here ?_)))
 refine hK14 _ _ ?_
 refine W.sr fun K40 hK40 => ?_
 refine zR 1 ?_
 obtain ⟨h41, hm⟩ := need_some hm
 refine ops_R (runs_bytesStr (a := (some ⟨b10, 0, none⟩)) (n := n_.toNat) (c := n_.toNat) (xs := q16) (St.kcells kU8 hs21 0 rfl) h41 (by kernel_rfl)) ?_
 refine zE 2 (hK40 _ _ ?_)
 refine W.ret ?_
 obtain rfl := some_inj hm
 have hs42 := St.tk0 hs21
 refine ret_of (.tuple #[(.string (strOfNums q16)), (zi 0)]) (by kernel_rfl) ⟨_, ⟨rfl, rfl⟩, hs42⟩
def runpack_B0 (ws : List Int) (n_ : Int) (k16 : ((List Int) × Int) → Option (ByteArray × Int)) (q14 : List Int) (p15 : Int) : Option (ByteArray × Int) :=
 if p15 < n_ then (need (-9223372036854775808 ≤ (p15.tdiv 8) ∧ (p15.tdiv 8) ≤ 9223372036854775807) <|
need (0 ≤ (p15.tdiv 8) ∧ (p15.tdiv 8) < (ws.length : Int)) <|
need (-9223372036854775808 ≤ (8 * p15.tmod 8) ∧ (8 * p15.tmod 8) ≤ 9223372036854775807) <|
need (0 ≤ (8 * p15.tmod 8) ∧ (8 * p15.tmod 8) ≤ 18446744073709551615) <|
need (0 ≤ (8 * p15.tmod 8)) <|
need (q14.length + 1 ≤ 1000000000) <|
need (-9223372036854775808 ≤ (p15 + 1) ∧ (p15 + 1) ≤ 9223372036854775807) <|
k16 ((q14 ++ [((shrK .u64 (ws.getD ((p15.tdiv 8).toNat) 0) (8 * p15.tmod 8)) % 256)]), (p15 + 1))) else (some ((strOfNums q14), 0))
def runpack_M (ws : List Int) (n_ : Int) : Option (ByteArray × Int) :=
 if n_ < 0 then (some (ByteArray.empty, 1)) else (need (-9223372036854775808 ≤ (8 * (ws.length : Int)) ∧ (8 * (ws.length : Int)) ≤ 9223372036854775807) <|
if n_ > (8 * (ws.length : Int)) then (some (ByteArray.empty, 1)) else (iter (fun k_ s_ => runpack_B0 ws n_ k_ s_.1 s_.2) FUEL ([], 0)))
theorem runpack_walk {ws : List Int} {n_ : Int} {wa : Option Addr} {wc : Nat} {r : ByteArray × Int} (B : Nat) (w : World) (hw : CellsAt wa (kU64.cells ws) w) (hm : runpack_M ws n_ = some r) : Spec Tryz.prog 104 #[(.slice wa ws.length wc), (zi n_)] B w [] (fun v H' => v = .tuple #[.string r.1, .int .i64 r.2] ∧ H' = []) := by
 refine spec_Q Tryz.func104 rfl fun hs => ?_
 unfold runpack_M at hm
 refine W.sr fun K1 hK1 => ?_
 refine zE 2 (hK1 _ _ ?_)
 refine W.seq fun K2 hK2 => ?_
 refine W.sr fun K3 hK3 => ?_
 refine zR 3 ?_
 rcases Bool.eq_false_or_eq_true (decide (n_ < 0)) with h4 | h4
 ·
  obtain ⟨h4p, hm⟩ := iY hm h4
  refine zS 10 h4 ?_
  refine zS 9 h4 ?_
  refine zE 6 (hK3 _ _ ?_)
  refine W.cond_true true (by kernel_rfl) rfl ?_
  refine W.sr fun K5 hK5 => ?_
  refine zE 2 (hK5 _ _ ?_)
  refine W.ret (ret_seq ?_)
  obtain rfl := some_inj hm
  refine ret_of (.tuple #[(.string ByteArray.empty), (zi 1)]) (by kernel_rfl) ⟨_, ⟨rfl, rfl⟩, hs⟩
 obtain ⟨h4p, hm⟩ := iN hm h4
 refine zS 10 h4 ?_
 refine zS 9 h4 ?_
 refine zR 3 ?_
 obtain ⟨h6, hm⟩ := need_some hm
 refine zI _ (wrap_i64 h6.1 h6.2) ?_
 refine zE 2 (hK3 _ _ ?_)
 refine W.cond (decide (n_ > (8 * (ws.length : Int)))) (by kernel_rfl) (fun h7 => ?_) (fun h7 => ?_)
 ·
  obtain ⟨h7p, hm⟩ := iY hm h7
  refine W.sr fun K8 hK8 => ?_
  refine zE 2 (hK8 _ _ ?_)
  refine W.ret (ret_seq ?_)
  obtain rfl := some_inj hm
  refine ret_of (.tuple #[(.string ByteArray.empty), (zi 1)]) (by kernel_rfl) ⟨_, ⟨rfl, rfl⟩, hs⟩
 obtain ⟨h7p, hm⟩ := iN hm h7
 refine W.skip ?_
 refine hK2 _ _ ?_
 refine W.sr fun K9 hK9 => ?_
 refine zE 1 (hK9 _ _ ?_)
 refine W.seq fun K10 hK10 => ?_
 refine W.sr fun K11 hK11 => ?_
 refine zE 1 (hK11 _ _ ?_)
 refine W.block ?_
 have hs20 := St.knil kU8 hs
 refine W.loop_iter (G := (List Int) × Int × (Option Addr) × Nat) (σ := (List Int) × Int) (fun | (q14, p15, m12, m13) => (q14, p15)) (fun | (q14, p15, m12, m13), s_, w_ => (∃ us, s_ = slots 38 [(0, (.slice wa ws.length wc)), (1, (zi n_)), (6, (.slice m12 q14.length m13)), (7, (zi p15))] us) ∧ St B w [] w_ [kU8.row m12 m13 q14]) ([], 0, none, 0) ⟨slots_intro _ (by kernel_rfl), hs20⟩ hm ?_
 rintro k16 ih17 ⟨q14, p15, m12, m13⟩ _ w18 ⟨⟨us, rfl⟩, hs19⟩ hm
 replace hm : runpack_B0 ws n_ k16 q14 p15 = some r := hm
 unfold runpack_B0 at hm
 refine W.seq fun K21 hK21 => ?_
 refine W.sr fun K22 hK22 => ?_
 refine zE 3 (hK22 _ _ ?_)
 refine W.cond (decide (p15 < n_)) (by kernel_rfl) (fun h23 => ?_) (fun h23 => ?_)
 ·
  obtain ⟨h23p, hm⟩ := iY hm h23
  refine W.skip ?_
  refine hK21 _ _ ?_
  refine W.seq fun K24 hK24 => ?_
  refine W.block ?_
  refine W.region ?_
  refine zR 3 ?_
  obtain ⟨h25, hm⟩ := need_some hm
  refine ops_R (v := .int .i64 (p15.tdiv 8)) (runs_quo (k := .i64) (a := p15) (b := 8) (by kernel_rfl) (by decide) (wrap_i64 h25.1 h25.2)) ?_
  obtain ⟨h27, hm⟩ := need_some hm
  have hk26 := lt_toNat h27
  refine ops_R (runs_index (a := wa) (n := ws.length) (z := (p15.tdiv 8)) (size := 1) ((p15.tdiv 8).toNat) (nat_of h27.1) hk26 (kU64.addr (hs19.oldCells hw) hk26) (by kernel_rfl)) ?_
  refine zL ((adr wa (((p15.tdiv 8).toNat) * 1)).add 0) (zu (ws.getD ((p15.tdiv 8).toNat) 0)) (kU64.at (hs19.oldCells hw) hk26 0 0 rfl) ?_
  refine zR 2 ?_
  obtain ⟨h28, hm⟩ := need_some hm
  refine zI _ (wrap_i64 h28.1 h28.2) ?_
  obtain ⟨h29, hm⟩ := need_some hm
  refine zI _ (wrap_u64 h29.1 (Int.lt_of_le_of_lt h29.2 (by decide))) ?_
  obtain ⟨h30, hm⟩ := need_some hm
  refine ops_R (v := .int .u64 (shrK .u64 (ws.getD ((p15.tdiv 8).toNat) 0) (8 * p15.tmod 8))) (runs_shift (b := false) (k := .u64) (x := (ws.getD ((p15.tdiv 8).toNat) 0)) (y := (8 * p15.tmod 8)) (by kernel_rfl) h30) ?_
  refine ops_val (v := .int .u8 (IntKind.u8.wrap (shrK .u64 (ws.getD ((p15.tdiv 8).toNat) 0) (8 * p15.tmod 8)))) (v' := .int .u8 ((shrK .u64 (ws.getD ((p15.tdiv 8).toNat) 0) (8 * p15.tmod 8)) % 256)) (by kernel_rfl) (congrArg (Value.int .u8) (wrap_u8_mod _)) ?_
  refine ops_new (fun b => .slice (some ⟨b, 0, none⟩) 1 1) (.cells [(.int .u8 ((shrK .u64 (ws.getD ((p15.tdiv 8).toNat) 0) (8 * p15.tmod 8)) % 256))].toArray 5 (0, 0)) hs19 (by kernel_rfl) (fun b33 w31 hs32 => ?_)
  have hs34 := St.f1 hs32
  obtain ⟨h39, hm⟩ := need_some hm
  refine ops_appendK kU8 (bytes := 1) (a' := (some ⟨b33, 0, none⟩)) (c' := 1) (l := q14) (m := [((shrK .u64 (ws.getD ((p15.tdiv 8).toNat) 0) (8 * p15.tmod 8)) % 256)]) hs34 (by kernel_rfl) (by simp) (cells_blk (hs34.heapAt 1 rfl)) (by unfold maxLen; (try simp only [List.length_cons, List.length_nil]); omega) (by (try simp only [List.length_cons, List.length_nil]); omega) (fun a35 c36 w37 hs38 => ?_)
  refine zE 1 ?_
  refine normal_block ?_
  refine hK24 _ _ ?_
  refine W.region ?_
  refine zR 1 ?_
  obtain ⟨h40, hm⟩ := need_some hm
  refine zI _ (wrap_i64 h40.1 h40.2) ?_
  refine zE 1 ?_
  have hs41 := St.tk1 hs38
  refine loopAt_next ?_
  exact ih17 ((q14 ++ [((shrK .u64 (ws.getD ((p15.tdiv 8).toNat) 0) (8 * p15.tmod 8)) % 256)]), (p15 + 1), a35, c36) _ _ ⟨slots_intro _ (by kernel_rfl), hs41⟩ hm
 obtain ⟨h23p, hm⟩ := iN hm h23
 refine W.exit (exit_seq (exit_seq (exit_here ?_)))
 refine hK10 _ _ ?_
 refine W.sr fun K42 hK42 => ?_
 refine zR 1 ?_
 refine ops_R (runs_bytesStr (a := m12) (n := q14.length) (c := m13) (xs := q14) (St.kcells kU8 hs19 0 rfl) rfl (by kernel_rfl)) ?_
 refine zE 2 (hK42 _ _ ?_)
 refine W.ret ?_
 obtain rfl := some_inj hm
 have hs43 := St.tk0 hs19
 refine ret_of (.tuple #[(.string (strOfNums q14)), (zi 0)]) (by kernel_rfl) ⟨_, ⟨rfl, rfl⟩, hs43⟩
end Go.Proofs.YtmmclabkkigiaaaGreat

set_option maxRecDepth 20000
namespace Go.Proofs.YtmmclabkkigiaaaGreat
open Go Go.RowKit
theorem within_spec {n_ f_ t_ : Int} (B : Nat) (w : World) : Spec Tryz.prog 90 #[(zi n_), (zi f_), (zi t_)] B w [] (fun v H' => v = .bool (decide (f_ ≤ n_ ∧ n_ ≤ t_)) ∧ H' = []) := by
 refine spec_Q Tryz.func90 rfl fun hs => ?_
 refine W.sr fun K1 hK1 => ?_
 refine zE 1 (hK1 _ _ ?_)
 refine W.sr fun K2 hK2 => ?_
 refine zR 4 ?_
 rcases Bool.eq_false_or_eq_true (decide (n_ ≥ f_)) with h3 | h3
 ·
  have h3p := of_decide_eq_true h3
  refine zS 10 h3 ?_
  refine zS 9 h3 ?_
  refine zE 5 (hK2 _ _ ?_)
  refine W.ret ?_
  refine ret_of (.bool (decide (n_ ≤ t_))) (by kernel_rfl) ⟨_, ⟨congrArg Value.bool (decide_eq_decide.2 (by omega)), rfl⟩, hs⟩
 have h3p := of_decide_eq_false h3
 refine zS 10 h3 ?_
 refine zS 9 h3 ?_
 refine zE 5 (hK2 _ _ ?_)
 refine W.ret ?_
 refine ret_of (.bool false) (by kernel_rfl) ⟨_, ⟨congrArg Value.bool (decide_eq_false (by omega)).symm, rfl⟩, hs⟩
theorem may_spec {gw gi gb : Int} (B : Nat) (w : World) : Spec Tryz.prog 63 #[(.agg #[(zi gw), (zi gi), (zi gb)])] B w [] (fun v H' => v = .bool (decide (May gw gi gb)) ∧ H' = []) := by
 refine spec_Q Tryz.func63 rfl fun hs => ?_
 refine W.sr fun K1 hK1 => ?_
 refine zN [(zi gw), (zi gi), (zi gb)] 24 hs fun b4 w2 hs3 => ?_
 refine zE 1 (hK1 _ _ ?_)
 refine W.sr fun K5 hK5 => ?_
 refine zR 1 ?_
 refine zL ⟨b4, 0, none⟩ (zi gw) (hs3.cellAt 0 rfl rfl) ?_
 refine zC00 hs3 (within_spec (n_ := gw) (f_ := 1) (t_ := 4) B _) fun w6 hs8 => ?_
 refine zR 1 ?_
 rcases Bool.eq_false_or_eq_true (decide (1 ≤ gw ∧ gw ≤ 4)) with h9 | h9
 ·
  have h9p := of_decide_eq_true h9
  refine zS 6 h9 ?_
  refine zS 5 h9 ?_
  refine zR 1 ?_
  refine zL ⟨b4, 1, none⟩ (zi gi) (hs8.cellAt 0 rfl rfl) ?_
  refine zC00 hs8 (within_spec (n_ := gi) (f_ := 2) (t_ := 64) B _) fun w10 hs12 => ?_
  refine zR 2 ?_
  rcases Bool.eq_false_or_eq_true (decide (2 ≤ gi ∧ gi ≤ 64)) with h13 | h13
  ·
   have h13p := of_decide_eq_true h13
   refine zS 11 h13 ?_
   refine zS 9 h13 ?_
   refine zS 10 h13 ?_
   refine zR 1 ?_
   refine zL ⟨b4, 2, none⟩ (zi gb) (hs12.cellAt 0 rfl rfl) ?_
   refine zC00 hs12 (within_spec (n_ := gb) (f_ := 2) (t_ := 512) B _) fun w14 hs16 => ?_
   refine zE 2 (hK5 _ _ ?_)
   refine W.ret ?_
   have hs17 := St.tk0 hs16
   refine ret_of (.bool (decide (2 ≤ gb ∧ gb ≤ 512))) (by kernel_rfl) ⟨_, ⟨congrArg Value.bool (decide_eq_decide.2 (by unfold May; omega)), rfl⟩, hs17⟩
  have h13p := of_decide_eq_false h13
  refine zS 11 h13 ?_
  refine zS 9 h13 ?_
  refine zS 10 h13 ?_
  refine zE 5 (hK5 _ _ ?_)
  refine W.ret ?_
  have hs18 := St.tk0 hs12
  refine ret_of (.bool false) (by kernel_rfl) ⟨_, ⟨congrArg Value.bool (decide_eq_false (by unfold May; omega)).symm, rfl⟩, hs18⟩
 have h9p := of_decide_eq_false h9
 refine zS 6 h9 ?_
 refine zS 5 h9 ?_
 refine zE 10 (hK5 _ _ ?_)
 refine W.ret ?_
 have hs19 := St.tk0 hs8
 refine ret_of (.bool false) (by kernel_rfl) ⟨_, ⟨congrArg Value.bool (decide_eq_false (by unfold May; omega)).symm, rfl⟩, hs19⟩
theorem rmay_spec {gw gi gb : Int} (B : Nat) (w : World) : Spec Tryz.prog 46 #[(.agg #[(zi gw), (zi gi), (zi gb)])] B w [] (fun v H' => v = .bool (decide (May gw gi gb)) ∧ H' = []) := by
 refine spec_Q Tryz.func46 rfl fun hs => ?_
 refine W.sr fun K1 hK1 => ?_
 refine zN [(zi gw), (zi gi), (zi gb)] 37 hs fun b4 w2 hs3 => ?_
 refine zE 1 (hK1 _ _ ?_)
 refine W.sr fun K5 hK5 => ?_
 refine zR 1 ?_
 refine zL ⟨b4, 0, none⟩ (zi gw) (hs3.cellAt 0 rfl rfl) ?_
 refine zR 2 ?_
 rcases Bool.eq_false_or_eq_true (decide (gw ≥ 1)) with h6 | h6
 ·
  have h6p := of_decide_eq_true h6
  refine zS 6 h6 ?_
  refine zS 5 h6 ?_
  refine zR 1 ?_
  refine zL ⟨b4, 0, none⟩ (zi gw) (hs3.cellAt 0 rfl rfl) ?_
  refine zR 3 ?_
  rcases Bool.eq_false_or_eq_true (decide (gw ≤ 4)) with h7 | h7
  ·
   have h7p := of_decide_eq_true h7
   refine zS 11 h7 ?_
   refine zS 9 h7 ?_
   refine zS 10 h7 ?_
   refine zR 1 ?_
   refine zL ⟨b4, 1, none⟩ (zi gi) (hs3.cellAt 0 rfl rfl) ?_
   refine zR 3 ?_
   rcases Bool.eq_false_or_eq_true (decide (gi ≥ 2)) with h8 | h8
   ·
    have h8p := of_decide_eq_true h8
    refine zS 16 h8 ?_
    refine zS 14 h8 ?_
    refine zS 15 h8 ?_
    refine zR 1 ?_
    refine zL ⟨b4, 1, none⟩ (zi gi) (hs3.cellAt 0 rfl rfl) ?_
    refine zR 3 ?_
    rcases Bool.eq_false_or_eq_true (decide (gi ≤ 64)) with h9 | h9
    ·
     have h9p := of_decide_eq_true h9
     refine zS 21 h9 ?_
     refine zS 19 h9 ?_
     refine zS 20 h9 ?_
     refine zR 1 ?_
     refine zL ⟨b4, 2, none⟩ (zi gb) (hs3.cellAt 0 rfl rfl) ?_
     refine zR 3 ?_
     rcases Bool.eq_false_or_eq_true (decide (gb ≥ 2)) with h10 | h10
     ·
      have h10p := of_decide_eq_true h10
      refine zS 26 h10 ?_
      refine zS 24 h10 ?_
      refine zS 25 h10 ?_
      refine zR 1 ?_
      refine zL ⟨b4, 2, none⟩ (zi gb) (hs3.cellAt 0 rfl rfl) ?_
      refine zE 3 (hK5 _ _ ?_)
      refine W.ret ?_
      have hs11 := St.tk0 hs3
      refine ret_of (.bool (decide (gb ≤ 512))) (by kernel_rfl) ⟨_, ⟨congrArg Value.bool (decide_eq_decide.2 (by unfold May; omega)), rfl⟩, hs11⟩
     have h10p := of_decide_eq_false h10
     refine zS 26 h10 ?_
     refine zS 24 h10 ?_
     refine zS 25 h10 ?_
     refine zE 5 (hK5 _ _ ?_)
     refine W.ret ?_
     have hs12 := St.tk0 hs3
     refine ret_of (.bool false) (by kernel_rfl) ⟨_, ⟨congrArg Value.bool (decide_eq_false (by unfold May; omega)).symm, rfl⟩, hs12⟩
    have h9p := of_decide_eq_false h9
    refine zS 21 h9 ?_
    refine zS 19 h9 ?_
    refine zS 20 h9 ?_
    refine zE 10 (hK5 _ _ ?_)
    refine W.ret ?_
    have hs13 := St.tk0 hs3
    refine ret_of (.bool false) (by kernel_rfl) ⟨_, ⟨congrArg Value.bool (decide_eq_false (by unfold May; omega)).symm, rfl⟩, hs13⟩
   have h8p := of_decide_eq_false h8
   refine zS 16 h8 ?_
   refine zS 14 h8 ?_
   refine zS 15 h8 ?_
   refine zE 15 (hK5 _ _ ?_)
   refine W.ret ?_
   have hs14 := St.tk0 hs3
   refine ret_of (.bool false) (by kernel_rfl) ⟨_, ⟨congrArg Value.bool (decide_eq_false (by unfold May; omega)).symm, rfl⟩, hs14⟩
  have h7p := of_decide_eq_false h7
  refine zS 11 h7 ?_
  refine zS 9 h7 ?_
  refine zS 10 h7 ?_
  refine zE 20 (hK5 _ _ ?_)
  refine W.ret ?_
  have hs15 := St.tk0 hs3
  refine ret_of (.bool false) (by kernel_rfl) ⟨_, ⟨congrArg Value.bool (decide_eq_false (by unfold May; omega)).symm, rfl⟩, hs15⟩
 have h6p := of_decide_eq_false h6
 refine zS 6 h6 ?_
 refine zS 5 h6 ?_
 refine zE 25 (hK5 _ _ ?_)
 refine W.ret ?_
 have hs16 := St.tk0 hs3
 refine ret_of (.bool false) (by kernel_rfl) ⟨_, ⟨congrArg Value.bool (decide_eq_false (by unfold May; omega)).symm, rfl⟩, hs16⟩
end Go.Proofs.YtmmclabkkigiaaaGreat
