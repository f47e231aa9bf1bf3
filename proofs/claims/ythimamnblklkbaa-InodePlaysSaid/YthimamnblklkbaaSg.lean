/- append that grows out of any cells; copy into a block; slices of arrays. -/
import Derived.Test.YthimamnblklkbaaLs
namespace Go.Proofs.Ythimamnblklkbaa
open Go Go.RowKit

section
variable {P : Program} {ops : Array Oper} {i : Nat} {s : Fs} {w w' : World} {K : Fs → World → Prop}

theorem ops_appendGrow {B : Nat} {w0 : World} {l0 : List Nat} {R : List Asn} {e : TypeId} {ad ad' : Addr} {n c m c' size bytes : Nat} {olds news : List Value}
    (hs : St B w0 l0 w R) (hq : appQ P ops i s e = some ((some ad, n, c), (some ad', m, c'), size, bytes))
    (hlo : olds.length = n * size) (holds : ∀ j v, olds[j]? = some v → w.cell? (ad.add j) = some v) (hl : news.length = m * size) (hnews : ∀ j v, news[j]? = some v → w.cell? (ad'.add j) = some v)
    (hg : c < n + m) (h63 : n + m ≤ maxLen) (hbytes : (n + m) * bytes ≤ 140737488355328)
    (hk : ∀ a'' c'' w', St B w0 l0 w' (rowA e size (.slice a'' (n + m) c'') (n + m) (olds ++ news) :: R) → OpsAt P ops (i + 1) (putS s (dstOf ops i) (.slice a'' (n + m) c'')) w' K) : OpsAt P ops i s w K := by
  unfold appQ at hq
  split at hq
  · rename_i o ho
    split at hq
    · rename_i x y t t' hop
      split at hq
      · rename_i e' f a1 n1 c1 a2 n2 c2 hu hi hx hy
        split at hq
        · rename_i z hz1 hz2 hz
          split at hq
          · rename_i hz3 hz4
            simp only [Option.some.injEq, Prod.mk.injEq] at hq
            obtain ⟨⟨rfl, rfl, rfl⟩, ⟨rfl, rfl, rfl⟩, rfl, rfl⟩ := hq
            obtain rfl := of_decide_eq_true hz1
            obtain rfl := of_decide_eq_true hz2
            have hzs := of_decide_eq_true hz3
            have hB := hs.size
            have hr := run_append_grow (P := P) w t o.type e' f z hu hi hz ad n1 c1 olds hlo holds ad' n2 c2 news hl hnews hg (by simp only [maxLen] at h63; omega) (growslice_fits (by omega) hbytes)
            have hge := grownCap_ge w (n1 + n2) c1 e'
            have hcm : grownCap w (n1 + n2) c1 e' ≤ maxLen := grownCap_le_maxLen w (n1 + n2) c1 e' h63
            have hlen : (olds ++ news).length = (n1 + n2) * f.size := by rw [List.length_append, hlo, hl, Nat.add_mul]
            refine ops_runs ho (v := .slice (some ⟨w.heap.size, 0, none⟩) (n1 + n2) (grownCap w (n1 + n2) c1 e')) (w' := w.drew.alloc (.cells (olds.toArray ++ news.toArray ++ Builtin.zeroCells z.cells (grownCap w (n1 + n2) c1 e' - (n1 + n2))) e')) ?_ (hk _ _ _ ?_)
            · simp only [execOp, hop, resolve, invoke, builtin, Sem.run_bind, Sem.run_pure, Result.andThen_ok, List.map_toArray, List.map_cons, List.map_nil, hx, hy, hr]
            · have hsd : St B w0 l0 w.drew R := hs.drew
              refine St.step0 (post := [rowA e' f.size (.slice (some ⟨w.heap.size, 0, none⟩) (n1 + n2) (grownCap w (n1 + n2) c1 e')) (n1 + n2) (olds ++ news)]) hsd
                ⟨[w.heap.size], ⟨[w.heap.size], [], ⟨⟨hlen, .inr ⟨w.heap.size, _, _, rfl, hB, heap_alloc_new w.drew _, hge, hcm, ?_, ?_⟩⟩, rfl⟩, fun b => by simp, fun b _ => by simp, by simp⟩, ?_⟩
              · simp only [Array.size_append, List.size_toArray, size_zeroCells, hzs, hlo, hl, ← Nat.add_mul]
                congr 1
                omega
              · simp only [Array.toList_append, List.append_assoc]
                rw [← List.append_assoc, ← hlen]
                exact List.take_left
              · refine ⟨rfl, rfl, rfl, by simp, fun b hb _ => Below.heap_alloc _ _ _ hb, fun b hb => .inr ?_⟩
                simp only [List.mem_singleton] at hb
                subst hb
                exact Nat.le_refl _
          · cases hq
        · cases hq
      · cases hq
    · cases hq
  · cases hq

/-- copy(x, y): both slices, an element's size. -/
def copyQ (P : Program) (ops : Array Oper) (i : Nat) (s : Fs) : Option ((Option Addr × Nat × Nat) × (Option Addr × Nat × Nat) × Nat) :=
  match opQ ops i s with
  | some o => match o.op with
    | .call { callee := .builtin .copy, args := ⟨[x, y]⟩, argTypes := ⟨[t, _]⟩ } => match P.underlying t, evS s x, evS s y with
      | some (.slice e), .slice a n c, .slice a' n' c' => match P.info? e with
        | some f => some ((a, n, c), (a', n', c'), f.size)
        | none => none
      | _, _, _ => none
    | _ => none
  | none => none

theorem ops_copy {B : Nat} {w0 : World} {l0 : List Nat} {R : List Asn} {b off n c m c' size : Nat} {ad : Addr} {vs cs : List Value} {t : TypeId} (hs : St B w0 l0 w (blk b (.cells cs.toArray t (0, 0)) :: R))
    (hq : copyQ P ops i s = some ((some ⟨b, off, none⟩, n, c), (some ad, m, c'), size)) (hm : m ≤ n) (hl : vs.length = m * size) (hsrc : ∀ j v, vs[j]? = some v → w.cell? (ad.add j) = some v)
    (hfit : off + vs.length ≤ cs.length) (hv : vs.all Value.oneCell' = true)
    (hk : ∀ w', St B w0 l0 w' (blk b (.cells (writeAt cs off vs).toArray t (0, 0)) :: R) → OpsAt P ops (i + 1) (putS s (dstOf ops i) (goInt m)) w' K) : OpsAt P ops i s w K := by
  have hb : w.heap[b]? = some (.cells cs.toArray t (0, 0)) := by
    obtain ⟨l, hsep⟩ := hs.sep
    obtain ⟨_, _, h1, _⟩ := hsep
    exact h1.2.1
  obtain ⟨w', h1, h2, h3⟩ := run_storeCells_blk (P := P) b t off vs 0 cs w hb (by simpa using hfit) hv
  have hst : St B w0 l0 w' (blk b (.cells (writeAt cs off vs).toArray t (0, 0)) :: R) := by
    refine St.step1 (post := [blk b (.cells (writeAt cs off vs).toArray t (0, 0))]) hs ?_
    rintro l ⟨g1, g2, rfl⟩
    exact ⟨[b], ⟨[b], [], ⟨g1, h2, rfl⟩, fun c => by simp, fun c _ => by simp, by simp⟩, h3⟩
  have hk' := hk w' hst
  unfold copyQ at hq
  split at hq
  · rename_i o ho
    split at hq
    · rename_i x y t1 t2 hop
      split at hq
      · rename_i e a1 n1 c1 a2 n2 c2 hu hx hy
        split at hq
        · rename_i f hi
          simp only [Option.some.injEq, Prod.mk.injEq] at hq
          obtain ⟨⟨rfl, rfl, rfl⟩, ⟨rfl, rfl, rfl⟩, rfl⟩ := hq
          refine ops_runs ho ?_ hk'
          have hmin : Nat.min n2 n1 = n2 := Nat.min_eq_left hm
          have hf := run_firstCells_some (P := P) w f.size n2 ad n2 c2 vs hl hsrc
          have hr : (Builtin.copy_ #[t1, t2] o.type #[.slice (some ⟨b, off, none⟩) n1 c1, .slice (some ad) n2 c2]).run P w = .ok (goInt n2) w' := by
            simp [Builtin.copy_, run_underlying hu, sizeOf, typeInfo, hi, Builtin.lenOf, hmin, hf, h1]
          simp only [execOp, hop, resolve, invoke, builtin, Sem.run_bind, Sem.run_pure, Result.andThen_ok, List.map_toArray, List.map_cons, List.map_nil, hx, hy, hr]
        · cases hq
      · cases hq
    · cases hq
  · cases hq
end
end Go.Proofs.Ythimamnblklkbaa
