/- Texts, one behind the other: Zp, F5a, F5b, F5c, F5d, Bt, Tz, Lp, Td, Ut, Us, Uy, Kw, Sg, Sc, Sv, Sx, Rb, Uz, A5a, A5b, Rg, Sk, S2, Lg, F5v, A5c, Rn, F0h, Rm, F0i, F0j, A0k, A5d, F6a. -/
import Derived.Test.YtmmclabkkigiaaaGreatDoorRows
import Derived.Laws.Entries
import Derived.Shelf.Spec.TrailingZeros
import Derived.ProofKit
import Derived.Deep.Slices
import Derived.Deep.Fields
import Derived.LaidMore
import Derived.OpenShut
import Derived.Stop.Joined
import Derived.Lib.LaidTab
import Derived.Laws.RangeString
import Derived.Lib.IndexAny
import Derived.Shelf.Lay
import Derived.Shelf.Strings.IndexAnyAll
import Derived.Shelf.Small.Utf8
import Derived.Laws.Runes
import Derived.WalkMore
import Derived.RegionTactic
import Derived.Deep.DeepBigQuietO
import Derived.Deep.QuietTactic
import Derived.Test.YtmmclabkkigiaaaGreatDoorProg
import Derived.Laws.BytesArg
import Derived.Lib.ConvBytes
import Derived.Laws.AppendOwn
import Derived.Laws.OwnMore
import Derived.Test.YtmmclabkkigiaaaGreatDoorQEN0
set_option linter.unusedVariables false
set_option linter.unusedSimpArgs false
namespace Go.Proofs.YtmmclabkkigiaaaGreatDoor
open Go Go.RowKit
set_option linter.unusedVariables false
section
variable {M : Bool} {P : Program} {ops : Array Oper} {i : Nat} {s : Fs} {w : World} {K : Fs → World → Prop} {Q : Exit → Fs → World → Prop}
theorem zE (n : Nat) (hk : K (runS P ops n i s w) w) (h : (runN P ops n i s w).map (·.2) = some w := by kernel_rfl) (hd : ops.size = i + n := by kernel_rfl) : OpsAt M P ops i s w K := ops_run n h (ops_done hd hk)
theorem zD (hk : K s w) (hd : ops.size = i := by kernel_rfl) : OpsAt M P ops i s w K := ops_done hd hk
theorem zR (n : Nat) (hk : OpsAt M P ops (i + n) (runS P ops n i s w) w K) (h : (runN P ops n i s w).map (·.2) = some w := by kernel_rfl) : OpsAt M P ops i s w K := ops_run n h hk
theorem zS (j : Nat) {b b' : Bool} (hb : b = b') (hk : OpsAt M P ops i (s.set j (.bool b')) w K) (h : s.f j = .bool b := by kernel_rfl) : OpsAt M P ops i s w K := ops_set j (eq_bool_of h hb) hk
theorem zI {k : IntKind} (x : Int) (hb : k.wrap x = x) (hk : OpsAt M P ops (i + 1) (putS s (dstOf ops i) (.int k x)) w K) (h : valQ P ops i s w = some (.int k (k.wrap x), w) := by kernel_rfl) : OpsAt M P ops i s w K := ops_val h (congrArg (Value.int k) hb) hk
theorem zL (ad : Addr) (v : Value) (hc : w.cell? ad = some v) (hk : OpsAt M P ops (i + 1) (putS s (dstOf ops i) v) w K) (h : loadQ P ops i s = some ad := by kernel_rfl) : OpsAt M P ops i s w K := ops_R (runs_load h hc) hk
theorem zN {B : Nat} {w0 : World} {l0 : List Nat} {R : List Asn} (cs : List Value) (t : TypeId) (hs : St B w0 l0 w R) (hk : ∀ b w', St B w0 l0 w' (blk b (.cells cs.toArray t (0, 0)) :: R) → OpsAt M P ops (i + 1) (putS s (dstOf ops i) (.pointer (some ⟨b, 0, none⟩))) w' K)
    (hq : valQ P ops i s w = some ((fun b => .pointer (some ⟨b, 0, none⟩)) w.heap.size, w.alloc (.cells cs.toArray t (0, 0))) := by kernel_rfl) : OpsAt M P ops i s w K := ops_new (fun b => .pointer (some ⟨b, 0, none⟩)) _ hs hq hk
theorem W.sr {id : Nat} {ops : Array Oper} {y : Code} (h : ∀ K : Fs → World → Prop, (∀ s w, W P y s w Q → K s w) → OpsAt true P ops 0 s w (seqQ K Q .normal)) : W P (.seq (.region id ops false) y) s w Q := W.seq fun K hK => W.region (h K hK)
end
theorem iY {α : Type} {p : Prop} {d inst : Decidable p} {a b x : α} (e : @ite α p inst a b = x) (h : @decide p d = true) : p ∧ a = x := ⟨@of_decide_eq_true p d h, ite_yes e (@of_decide_eq_true p d h)⟩
theorem iN {α : Type} {p : Prop} {d inst : Decidable p} {a b x : α} (e : @ite α p inst a b = x) (h : @decide p d = false) : ¬ p ∧ b = x := ⟨@of_decide_eq_false p d h, ite_no e (@of_decide_eq_false p d h)⟩
section
variable {M : Bool} {P : Program} {ops : Array Oper} {i : Nat} {s : Fs} {w : World} {K : Fs → World → Prop} {B : Nat} {w0 : World} {l0 : List Nat} {R : List Asn} {f : FuncId} {args : Array Value} {V : Value} {a0 a1 a2 a3 b0 b1 b2 b3 : Asn}
theorem zC00 (hs : St B w0 l0 w R) (hc : Spec P f args B w [] (fun v H' => v = V ∧ H' = [])) (hk : ∀ w', St B w0 l0 w' R → OpsAt M P ops (i + 1) (putS s (dstOf ops i) V) w' K) (hq : callQ P ops i s w = some (f, args, w) := by kernel_rfl) : OpsAt M P ops i s w K :=
  ops_call (pre := []) hs hq hc fun v H' w' h h' => by obtain ⟨rfl, rfl⟩ := h; exact hk w' h'
theorem zC11 (hs : St B w0 l0 w (a0 :: R)) (hc : Spec P f args B w [a0] (fun v H' => v = V ∧ H' = [b0])) (hk : ∀ w', St B w0 l0 w' (b0 :: R) → OpsAt M P ops (i + 1) (putS s (dstOf ops i) V) w' K) (hq : callQ P ops i s w = some (f, args, w) := by kernel_rfl) : OpsAt M P ops i s w K :=
  ops_call (pre := [a0]) hs hq hc fun v H' w' h h' => by obtain ⟨rfl, rfl⟩ := h; exact hk w' h'
theorem zC22 (hs : St B w0 l0 w (a0 :: a1 :: R)) (hc : Spec P f args B w [a0, a1] (fun v H' => v = V ∧ H' = [b0, b1])) (hk : ∀ w', St B w0 l0 w' (b0 :: b1 :: R) → OpsAt M P ops (i + 1) (putS s (dstOf ops i) V) w' K) (hq : callQ P ops i s w = some (f, args, w) := by kernel_rfl) : OpsAt M P ops i s w K :=
  ops_call (pre := [a0, a1]) hs hq hc fun v H' w' h h' => by obtain ⟨rfl, rfl⟩ := h; exact hk w' h'
end
end Go.Proofs.YtmmclabkkigiaaaGreatDoor

set_option maxRecDepth 20000
namespace Go.Proofs.YtmmclabkkigiaaaGreatDoor
open Go Go.RowKit
set_option linter.unusedSimpArgs false
set_option linter.unusedVariables false

theorem len_spec {p : Value} {img : List Int} {l : List (Int × Int)} (B : Nat) (w : World) (hv : ViewAt p img l w) : Spec Tryz.prog 89 #[p] B w [] (fun v H' => v = .int .i64 (img.length : Int) ∧ H' = []) := by
 refine spec_Q Tryz.func89 rfl fun hs => ?_
 have hv0 := hv
 obtain ⟨x, rfl, hok, hb, hi, hm, ho, hcap⟩ := hv
 refine W.sr fun K1 hK1 => ?_
 refine zE 1 (hK1 _ _ ?_)
 refine W.seq fun K2 hK2 => ?_
 refine W.sr fun K3 hK3 => ?_
 refine zE 2 (hK3 _ _ ?_)
 refine W.cond_false false (by kernel_rfl) rfl ?_
 refine W.skip ?_
 refine hK2 _ _ ?_
 refine W.sr fun K4 hK4 => ?_
 refine zR 3 ?_
 refine zL ⟨x.b, 0, none⟩ (.slice x.ia img.length x.ic) (cell_of_blk (hs.old hb) rfl) ?_
 refine zE 2 (hK4 _ _ ?_)
 refine W.ret ?_
 refine ret_of (.int .i64 (img.length : Int)) (by kernel_rfl) ⟨_, ?_, hs⟩
 exact ⟨rfl, rfl⟩

theorem has_spec {p : Value} {img : List Int} {l : List (Int × Int)} {at_ : Int} (B : Nat) (w : World) (hv : ViewAt p img l w) : Spec Tryz.prog 114 #[p, (.int .i64 at_)] B w [] (fun v H' => v = .bool (decide (0 ≤ at_ ∧ at_ < (img.length : Int))) ∧ H' = []) := by
 refine spec_Q Tryz.func114 rfl fun hs => ?_
 have hv0 := hv
 obtain ⟨x, rfl, hok, hb, hi, hm, ho, hcap⟩ := hv
 refine W.sr fun K1 hK1 => ?_
 refine zE 1 (hK1 _ _ ?_)
 refine W.sr fun K2 hK2 => ?_
 refine zR 3 ?_
 rcases Bool.eq_false_or_eq_true (decide (at_ ≥ 0)) with h3 | h3
 ·
  have h3p := of_decide_eq_true h3
  refine zS 7 h3 ?_
  refine zS 6 h3 ?_
  refine zR 2 ?_
  refine zC00 hs (len_spec (hv := (viewAt_old hs hv0)) B _) fun w4 hs6 => ?_
  refine zE 3 (hK2 _ _ ?_)
  refine W.ret ?_
  refine ret_of (.bool (decide (at_ < (img.length : Int)))) (by kernel_rfl) ⟨_, ?_, hs6⟩
  exact ⟨congrArg Value.bool (decide_eq_decide.2 (by omega)), rfl⟩
 ·
  have h3p := of_decide_eq_false h3
  refine zS 7 h3 ?_
  refine zS 6 h3 ?_
  refine zE 6 (hK2 _ _ ?_)
  refine W.ret ?_
  refine ret_of (.bool false) (by kernel_rfl) ⟨_, ?_, hs⟩
  exact ⟨congrArg Value.bool (decide_eq_false (by omega)).symm, rfl⟩

theorem get_spec {p : Value} {img : List Int} {l : List (Int × Int)} {at_ : Int} (B : Nat) (w : World) (hv : ViewAt p img l w) : Spec Tryz.prog 84 #[p, (.int .i64 at_)] B w [] (fun v H' => v = .int .u64 (vget img l at_) ∧ H' = []) := by
 refine spec_Q Tryz.func84 rfl fun hs => ?_
 have hv0 := hv
 obtain ⟨x, rfl, hok, hb, hi, hm, ho, hcap⟩ := hv
 refine W.sr fun K1 hK1 => ?_
 refine zE 1 (hK1 _ _ ?_)
 refine W.seq fun K2 hK2 => ?_
 refine W.sr fun K3 hK3 => ?_
 refine zR 2 ?_
 refine zC00 hs (has_spec (at_ := at_) (hv := (viewAt_old hs hv0)) B _) fun w4 hs6 => ?_
 refine zE 1 (hK3 _ _ ?_)
 refine W.cond (!(decide (0 ≤ at_ ∧ at_ < (img.length : Int)))) (by kernel_rfl) (fun h7 => ?_) (fun h7 => ?_)
 ·
  have h7p : ¬ (0 ≤ at_ ∧ at_ < (img.length : Int)) := of_decide_eq_false (bnot_true h7)
  refine W.sr fun K8 hK8 => ?_
  refine zE 1 (hK8 _ _ ?_)
  refine W.ret (ret_seq ?_)
  refine ret_of (.int .u64 0) (by kernel_rfl) ⟨_, ?_, hs6⟩
  exact ⟨by simp only [vget]; rw [if_neg (by omega)], rfl⟩
 ·
  have h7p : 0 ≤ at_ ∧ at_ < (img.length : Int) := of_decide_eq_true (bnot_false h7)
  refine W.skip ?_
  refine hK2 _ _ ?_
  refine W.seq fun K9 hK9 => ?_
  refine W.sr fun K10 hK10 => ?_
  refine zR 3 ?_
  refine zL ⟨x.b, 1, none⟩ (.map (some x.mb)) (cell_of_blk (hs6.old hb) rfl) ?_
  refine zR 1 ?_
  refine ops_R (v := (.tuple #[(.int .u64 ((vlook l at_).getD 0)), (.bool ((vlook l at_).isSome))])) (runs_lookup (k := at_) (ok := true) (hs6.oldMap hm) (by kernel_rfl)) ?_
  refine zE 5 (hK10 _ _ ?_)
  refine W.sr fun K11 hK11 => ?_
  refine zE 1 (hK11 _ _ ?_)
  refine W.cond ((vlook l at_).isSome) (by kernel_rfl) (fun h12 => ?_) (fun h12 => ?_)
  ·
   have h12p : ((vlook l at_).isSome) = true := h12
   refine W.sr fun K13 hK13 => ?_
   refine zE 2 (hK13 _ _ ?_)
   refine W.ret (ret_seq ?_)
   refine ret_of (.int .u64 ((vlook l at_).getD 0)) (by kernel_rfl) ⟨_, ?_, hs6⟩
   exact ⟨congrArg (Value.int .u64) (by simp only [vget]; rw [if_pos (by omega)]; cases hq : vlook l at_ <;> simp_all), rfl⟩
  ·
   have h12p : ((vlook l at_).isSome) = false := h12
   refine W.skip ?_
   refine hK9 _ _ ?_
   refine W.sr fun K14 hK14 => ?_
   refine zR 3 ?_
   refine zL ⟨x.b, 0, none⟩ (.slice x.ia img.length x.ic) (cell_of_blk (hs6.old hb) rfl) ?_
   refine zR 1 ?_
   have hk15 : at_.toNat < img.length := by omega
   refine ops_R (runs_index (a := x.ia) (n := img.length) (z := at_) (size := 1) at_.toNat (by omega) hk15 (kU64.addr (hs6.oldCells hi) hk15) (by kernel_rfl)) ?_
   refine zL ((adr x.ia (at_.toNat * 1)).add 0) (.int .u64 (img.getD at_.toNat 0)) (kU64.at (hs6.oldCells hi) hk15 0 0 rfl) ?_
   refine zE 1 (hK14 _ _ ?_)
   refine W.ret ?_
   refine ret_of (.int .u64 (img.getD at_.toNat 0)) (by kernel_rfl) ⟨_, ?_, hs6⟩
   exact ⟨congrArg (Value.int .u64) (by simp only [vget]; rw [if_pos (by omega)]; cases hq : vlook l at_ <;> simp_all), rfl⟩

theorem put_spec {p : Value} {img : List Int} {l : List (Int × Int)} {at_ x_ : Int} (B : Nat) (w : World) : Spec Tryz.prog 90 #[p, (.int .i64 at_), (.int .u64 x_)] B w [viewA p img l] (fun v H' => v = .int .i64 (vput img l at_ x_).1 ∧ H' = [viewA p img (vput img l at_ x_).2]) := by
 refine spec_W Tryz.func90 rfl fun l0 hs => ?_
 have hv0 := hs.entAt 0 rfl viewA_at
 obtain ⟨x, ⟨rfl, hok⟩, hs0⟩ := St.open hs
 have hs1 : St B w l0 w [blk x.b (.cells [(.slice x.ia img.length x.ic), (.map (some x.mb)), (.slice x.oa ((l.map (·.1)).length) x.oc)].toArray 111 (0, 0)), kU64.row x.ia x.ic img, mapA x.mb l, kInt.row x.oa x.oc (l.map (·.1))] := hs0
 have hlm : (l.map (·.1)).length = l.length := List.length_map _
 have hroom := hok.many
 refine W.sr fun K1 hK1 => ?_
 refine zE 1 (hK1 _ _ ?_)
 refine W.seq fun K2 hK2 => ?_
 refine W.sr fun K3 hK3 => ?_
 refine zE 2 (hK3 _ _ ?_)
 refine W.cond_false false (by kernel_rfl) rfl ?_
 refine W.skip ?_
 refine hK2 _ _ ?_
 refine W.seq fun K4 hK4 => ?_
 refine W.sr fun K5 hK5 => ?_
 refine zR 2 ?_
 refine zC00 hs1 (has_spec (p := ptr x.b) (img := img) (l := l) (at_ := at_) (hv := ⟨x, rfl, hok, hs1.heapAt 0 rfl, St.kcells kU64 hs1 1 rfl, hs1.mapAt 2 rfl, St.kcells kInt hs1 3 rfl, St.capnil kU64 hs1 1 rfl⟩) B _) fun w6 hs8 => ?_
 refine zE 1 (hK5 _ _ ?_)
 refine W.cond (!(decide (0 ≤ at_ ∧ at_ < (img.length : Int)))) (by kernel_rfl) (fun h9 => ?_) (fun h9 => ?_)
 ·
  have h9p : ¬ (0 ≤ at_ ∧ at_ < (img.length : Int)) := of_decide_eq_false (bnot_true h9)
  refine W.sr fun K10 hK10 => ?_
  refine zE 1 (hK10 _ _ ?_)
  refine W.ret (ret_seq ?_)
  refine ret_of (.int .i64 8) (by kernel_rfl) ⟨_, ⟨?_, rfl⟩, ?_⟩
  · simp only [vput]; rw [if_neg (by omega)]
  · simp only [vput]; rw [if_neg (by omega)]; exact view_close hok hs8
 ·
  have h9p : 0 ≤ at_ ∧ at_ < (img.length : Int) := of_decide_eq_true (bnot_false h9)
  refine W.skip ?_
  refine hK4 _ _ ?_
  refine W.seq fun K11 hK11 => ?_
  refine W.sr fun K12 hK12 => ?_
  refine zR 3 ?_
  refine zL ⟨x.b, 1, none⟩ (.map (some x.mb)) (hs8.cellAt 0 rfl rfl) ?_
  refine zR 1 ?_
  refine ops_R (v := (.tuple #[(.int .u64 ((vlook l at_).getD 0)), (.bool ((vlook l at_).isSome))])) (runs_lookup (k := at_) (ok := true) (hs8.mapAt 2 rfl) (by kernel_rfl)) ?_
  refine zE 5 (hK12 _ _ ?_)
  refine W.sr fun K13 hK13 => ?_
  refine zE 2 (hK13 _ _ ?_)
  refine W.cond (!((vlook l at_).isSome)) (by kernel_rfl) (fun h14 => ?_) (fun h14 => ?_)
  ·
   have h14p : ((vlook l at_).isSome) = false := (bnot_true h14)
   refine W.seq fun K15 hK15 => ?_
   refine W.sr fun K16 hK16 => ?_
   refine zR 3 ?_
   refine zL ⟨x.b, 2, none⟩ (.slice x.oa ((l.map (·.1)).length) x.oc) (hs8.cellAt 0 rfl rfl) ?_
   refine zE 2 (hK16 _ _ ?_)
   refine W.cond (decide ((((l.map (·.1)).length) : Int) ≥ 96)) (by kernel_rfl) (fun h17 => ?_) (fun h17 => ?_)
   ·
    have h17p := of_decide_eq_true h17
    refine W.sr fun K18 hK18 => ?_
    refine zE 1 (hK18 _ _ ?_)
    refine W.ret (ret_seq (ret_seq ?_))
    have hn : vlook l at_ = none := by cases hq : vlook l at_ <;> simp_all
    have hmany : 96 ≤ l.length := by omega
    have e : vput img l at_ x_ = (5, l) := by simp only [vput]; rw [if_pos (by omega), hn]; exact if_pos hmany
    refine ret_of (.int .i64 5) (by kernel_rfl) ⟨_, ⟨by rw [e], rfl⟩, ?_⟩
    rw [e]; exact view_close (l := l) hok hs8
   ·
    have h17p := of_decide_eq_false h17
    refine W.skip ?_
    refine hK15 _ _ ?_
    refine W.region ?_
    refine zR 4 ?_
    refine zL ⟨x.b, 2, none⟩ (.slice x.oa ((l.map (·.1)).length) x.oc) (hs8.cellAt 0 rfl rfl) ?_
    refine zR 1 ?_
    refine ops_new (fun b => .slice (some ⟨b, 0, none⟩) 1 1) (.cells [(.int .i64 at_)].toArray 3 (0, 0)) hs8 (by kernel_rfl) (fun b21 w19 hs20 => ?_)
    have hs22 := St.f4 hs20
    refine ops_appendK kInt (bytes := 8) (a' := (some ⟨b21, 0, none⟩)) (c' := 1) (l := (l.map (·.1))) (m := [at_]) hs22 (by kernel_rfl) (by simp) (cells_blk (hs22.heapAt 1 rfl)) (by (unfold maxLen; try simp) <;> omega) (by (try simp) <;> omega) (fun a23 c24 w25 hs26 => ?_)
    refine zR 2 ?_
    have hs29 := St.f2 hs26
    refine ops_store (off := 2) (cs := [(.slice x.ia img.length x.ic), (.map (some x.mb)), (.slice x.oa ((l.map (·.1)).length) x.oc)]) (vs := [(.slice a23 (((l.map (·.1)) ++ [at_]).length) c24)]) hs29 (by kernel_rfl) (by simp) rfl (fun w27 hs28 => ?_)
    have hs30 : St B w l0 w27 [blk x.b (.cells [(.slice x.ia img.length x.ic), (.map (some x.mb)), (.slice a23 (((l.map (·.1)) ++ [at_]).length) c24)].toArray 111 (0, 0)), kInt.row a23 c24 ((l.map (·.1)) ++ [at_]), blk b21 (.cells [(.int .i64 at_)].toArray 3 (0, 0)), kU64.row x.ia x.ic img, mapA x.mb l] := hs28
    refine zD (hK11 _ _ ?_)
    refine W.sr fun K31 hK31 => ?_
    refine zR 3 ?_
    refine zL ⟨x.b, 1, none⟩ (.map (some x.mb)) (hs30.cellAt 0 rfl rfl) ?_
    refine zR 2 ?_
    have hs32 := St.f4 hs30
    refine ops_mapUpdate (k := at_) (v := x_) hs32 hok.keys (by kernel_rfl) (fun w33 hs34 => ?_)
    refine zD (hK31 _ _ ?_)
    refine W.sr fun K35 hK35 => ?_
    refine zE 1 (hK35 _ _ ?_)
    refine W.ret ?_
    have hs36 := St.f2 hs34
    have hs37 := St.f1 hs36
    have hs38 := St.f4 hs37
    have hs39 := St.f3 hs38
    have hs40 := St.tk4 hs39
    have hn : vlook l at_ = none := by cases hq : vlook l at_ <;> simp_all
    have hmany : l.length < 96 := by omega
    have e : vput img l at_ x_ = (0, vset l at_ x_) := by simp only [vput]; rw [if_pos (by omega), hn]; exact if_neg (by omega)
    have ek : l.map (·.1) ++ [at_] = (vset l at_ x_).map (·.1) := by rw [vset_none hn]; simp
    rw [ek] at hs40
    refine ret_of (.int .i64 0) (by kernel_rfl) ⟨_, ⟨by rw [e], rfl⟩, ?_⟩
    rw [e]; exact view_close (l := vset l at_ x_) (ia := x.ia) (ic := x.ic) (mb := x.mb) (oa := a23) (oc := c24) (hok.put (by omega) (.inr hmany)) hs40
  ·
   have h14p : ((vlook l at_).isSome) = true := (bnot_false h14)
   refine W.skip ?_
   refine hK11 _ _ ?_
   refine W.sr fun K41 hK41 => ?_
   refine zR 3 ?_
   refine zL ⟨x.b, 1, none⟩ (.map (some x.mb)) (hs8.cellAt 0 rfl rfl) ?_
   refine zR 2 ?_
   have hs42 := St.f2 hs8
   refine ops_mapUpdate (k := at_) (v := x_) hs42 hok.keys (by kernel_rfl) (fun w43 hs44 => ?_)
   refine zD (hK41 _ _ ?_)
   refine W.sr fun K45 hK45 => ?_
   refine zE 1 (hK45 _ _ ?_)
   refine W.ret ?_
   have hs46 := St.f3 hs44
   have hs47 := St.f1 hs46
   have hs48 := St.f3 hs47
   have hs49 := St.f3 hs48
   have hn : (vlook l at_).isSome = true := by simp_all
   have e : vput img l at_ x_ = (0, vset l at_ x_) := by simp only [vput]; rw [if_pos (by omega)]; cases hq : vlook l at_ <;> simp_all
   have ek : l.map (·.1) = (vset l at_ x_).map (·.1) := (vset_keys_some hn).symm
   rw [ek] at hs49
   refine ret_of (.int .i64 0) (by kernel_rfl) ⟨_, ⟨by rw [e], rfl⟩, ?_⟩
   rw [e]; exact view_close (l := vset l at_ x_) (ia := x.ia) (ic := x.ic) (mb := x.mb) (oa := x.oa) (oc := x.oc) (hok.put (by omega) (.inl hn)) hs49

end Go.Proofs.YtmmclabkkigiaaaGreatDoor

set_option maxRecDepth 20000
namespace Go.Proofs.YtmmclabkkigiaaaGreatDoor
open Go Go.RowKit
set_option linter.unusedSimpArgs false
set_option linter.unusedVariables false

theorem clone_some {ad : Addr} {c : Nat} {xs : List Int} (B : Nat) (w : World) (hc : CellsAt (some ad) (kU64.cells xs) w) (hsz : xs.length ≤ 17592186044415) : Spec Tryz.prog 54 #[(.slice (some ad) xs.length c)] B w [] (fun v H' => ∃ a' c', v = .slice a' xs.length c' ∧ H' = [kU64.row a' c' xs]) := by
 refine spec_Q Tryz.func54 rfl fun hs => ?_
 refine W.sr fun K1 hK1 => ?_
 refine zE 1 (hK1 _ _ ?_)
 refine W.seq fun K2 hK2 => ?_
 refine W.sr fun K3 hK3 => ?_
 refine zE 2 (hK3 _ _ ?_)
 refine W.cond_false false (by kernel_rfl) rfl ?_
 refine W.skip ?_
 refine hK2 _ _ ?_
 refine W.sr fun K4 hK4 => ?_
 refine ops_new (fun b => .slice (some ⟨b, 0, none⟩) 0 0) (.cells [].toArray 25 (0, 0)) hs (by kernel_rfl) (fun b7 w5 hs6 => ?_)
 refine zR 1 ?_
 have hs8 : St B w [] w5 [kU64.row (some ⟨b7, 0, none⟩) 0 ([])] := St.kblk kU64 [] hs6 rfl rfl (by simp only [List.length_cons, List.length_nil]; decide)
 refine ops_appendK kU64 (bytes := 8) (a' := (some ad)) (c' := c) (l := []) (m := xs) hs8 (by kernel_rfl) (by simp) (hs8.oldCells hc) (by (unfold maxLen; try simp) <;> omega) (by (try simp) <;> omega) (fun a9 c10 w11 hs12 => ?_)
 have hs13 : St B w [] w11 [kU64.row a9 c10 xs] := hs12
 refine zE 1 (hK4 _ _ ?_)
 refine W.ret ?_
 refine ret_of (.slice a9 xs.length c10) (by kernel_rfl) ⟨_, ?_, hs13⟩
 exact ⟨_, _, rfl, rfl⟩

theorem clone_nil  (B : Nat) (w : World) : Spec Tryz.prog 54 #[(.slice none 0 0)] B w [] (fun v H' => ∃ a' c', v = .slice a' 0 c' ∧ H' = [kU64.row a' c' []]) := by
 refine spec_Q Tryz.func54 rfl fun hs => ?_
 refine W.sr fun K1 hK1 => ?_
 refine zE 1 (hK1 _ _ ?_)
 refine W.seq fun K2 hK2 => ?_
 refine W.sr fun K3 hK3 => ?_
 refine zE 2 (hK3 _ _ ?_)
 refine W.cond_true true (by kernel_rfl) rfl ?_
 refine W.sr fun K4 hK4 => ?_
 refine zE 1 (hK4 _ _ ?_)
 refine W.ret (ret_seq ?_)
 have hk := St.knil kU64 hs
 refine ret_of (.slice none 0 0) (by kernel_rfl) ⟨_, ⟨none, 0, rfl, rfl⟩, hk⟩

theorem clone_spec {a : Option Addr} {c : Nat} {xs : List Int} (B : Nat) (w : World) (hc : CellsAt a (kU64.cells xs) w) (hn : a = none → c = 0) (hsz : xs.length ≤ 17592186044415) :
  Spec Tryz.prog 54 #[.slice a xs.length c] B w [] (fun v H' => ∃ a' c', v = .slice a' xs.length c' ∧ H' = [kU64.row a' c' xs]) := by
 cases a with
 | some ad => exact clone_some B w hc hsz
 | none =>
  have h1 := cells_none kU64 hc
  have h2 := hn rfl
  subst h1 h2
  exact clone_nil B w

theorem new_spec {a : Option Addr} {c : Nat} {xs : List Int} (B : Nat) (w : World) (hc : CellsAt a (kU64.cells xs) w) (hn : a = none → c = 0) (hsz : xs.length ≤ 17592186044415) : Spec Tryz.prog 18 #[(.slice a xs.length c)] B w [] (fun v H' => ∃ b, v = ptr b ∧ H' = [viewA (ptr b) xs []]) := by
 refine spec_Q Tryz.func18 rfl fun hs => ?_
 refine W.sr fun K1 hK1 => ?_
 refine zE 1 (hK1 _ _ ?_)
 refine W.sr fun K2 hK2 => ?_
 refine zR 1 ?_
 refine ops_call0 hs (by kernel_rfl) (clone_spec (hc := (hs.oldCells hc)) (hn := hn) (hsz := hsz) B _) ?_
 rintro _ _ w5 ⟨a3, c4, rfl, rfl⟩ hs6
 have hs7 := St.ap1 hs6
 refine ops_makeMap hs7 (by kernel_rfl) (fun b10 w8 hs9 => ?_)
 refine zR 1 ?_
 refine zN [(.slice a3 xs.length c4), (.map (some b10)), (.slice none 0 0)] 111 hs9 fun b13 w11 hs12 => ?_
 refine zE 1 (hK2 _ _ ?_)
 refine W.ret ?_
 have hs14 := St.f1 hs12
 have hs15 := St.f2 hs14
 have hs16 := St.f2 hs15
 have hk := St.knil kInt hs16
 have hk2 := hk.perm (H' := [blk b13 (.cells [(.slice a3 xs.length c4), (.map (some b10)), (.slice none 0 0)].toArray 111 (0, 0)), kU64.row a3 c4 xs, mapA b10 ([]), kInt.row none 0 []]) (perm_last _ _)
 refine ret_of (.pointer (some ⟨b13, 0, none⟩)) (by kernel_rfl) ⟨_, ⟨b13, rfl, rfl⟩, ?_⟩
 exact view_close (l := []) (ia := a3) (ic := c4) (mb := b10) (oa := none) (oc := 0) (VOk.nil hsz) hk2

theorem writes_spec {p : Value} {img : List Int} {l : List (Int × Int)} (B : Nat) (w : World) (hv : ViewAt p img l w) : Spec Tryz.prog 35 #[p] B w [] (fun v H' => ∃ a' c', v = .slice a' l.length c' ∧ H' = [kWr.row a' c' l]) := by
 refine spec_Q Tryz.func35 rfl fun hs => ?_
 have hv0 := hv
 obtain ⟨x, rfl, hok, hb, hi, hm, ho, hcap⟩ := hv
 have hlm : (l.map (·.1)).length = l.length := List.length_map _
 have hroom := hok.many
 refine W.sr fun K1 hK1 => ?_
 refine zE 1 (hK1 _ _ ?_)
 refine W.seq fun K2 hK2 => ?_
 refine W.sr fun K3 hK3 => ?_
 refine zE 2 (hK3 _ _ ?_)
 refine W.cond_false false (by kernel_rfl) rfl ?_
 refine W.skip ?_
 refine hK2 _ _ ?_
 refine W.seq fun K4 hK4 => ?_
 refine W.sr fun K5 hK5 => ?_
 refine zR 3 ?_
 refine zL ⟨x.b, 2, none⟩ (.slice x.oa ((l.map (·.1)).length) x.oc) (cell_of_blk (hs.old hb) rfl) ?_
 refine zE 2 (hK5 _ _ ?_)
 refine W.block ?_
 have hz0 := St.knil kWr hs
 refine W.loop (G := Nat × Option Addr × Nat) (fun | (k, a, c), s_, w_ => (∃ us, s_ = slots 29 [(0, (.pointer (some ⟨x.b, 0, none⟩))), (2, (.slice a ((l.take k).length) c)), (10, (.slice x.oa ((l.map (·.1)).length) x.oc)), (11, (.int .i64 (((l.map (·.1)).length) : Int))), (12, (.int .i64 (k : Int)))] us) ∧ St B w [] w_ [kWr.row a c (l.take k)] ∧ (k ≤ l.length)) (fun | (k, a, c) => l.length - k) (0, none, 0) ⟨slots_intro _ (by kernel_rfl), hz0, Nat.zero_le _⟩ ?_
 rintro ⟨k, a, c⟩ _ w6 ⟨⟨us, rfl⟩, hs7, hk_⟩
 refine W.sr fun K8 hK8 => ?_
 refine zE 1 (hK8 _ _ ?_)
 refine W.seq fun K9 hK9 => ?_
 refine W.cond (decide ((k : Int) < (((l.map (·.1)).length) : Int))) (by kernel_rfl) (fun h10 => ?_) (fun h10 => ?_)
 ·
  have h10p := of_decide_eq_true h10
  refine W.skip ?_
  refine hK9 _ _ ?_
  refine W.seq fun K11 hK11 => ?_
  refine W.block ?_
  refine W.sr fun K12 hK12 => ?_
  have hk13 : k < (l.map (·.1)).length := by omega
  refine ops_R (runs_index (a := x.oa) (n := (l.map (·.1)).length) (z := (k : Int)) (size := 1) k rfl hk13 (kInt.addr (hs7.oldCells ho) hk13) (by kernel_rfl)) ?_
  refine zL ((adr x.oa (k * 1)).add 0) (.int .i64 ((l.map (·.1)).getD k 0)) (kInt.at (hs7.oldCells ho) hk13 0 0 rfl) ?_
  refine zE 1 (hK12 _ _ ?_)
  refine W.region ?_
  refine zR 5 ?_
  refine zL ⟨x.b, 1, none⟩ (.map (some x.mb)) (cell_of_blk (hs7.old hb) rfl) ?_
  refine zR 1 ?_
  refine ops_R (v := (.int .u64 ((vlook l ((l.map (·.1)).getD k 0)).getD 0))) (runs_lookup (k := ((l.map (·.1)).getD k 0)) (ok := false) (hs7.oldMap hm) (by kernel_rfl)) ?_
  refine zR 1 ?_
  refine ops_new (fun b => .slice (some ⟨b, 0, none⟩) 1 1) (.cells [(.int .i64 ((l.map (·.1)).getD k 0)), (.int .u64 ((vlook l ((l.map (·.1)).getD k 0)).getD 0))].toArray 137 (0, 0)) hs7 (by kernel_rfl) (fun b16 w14 hs15 => ?_)
  have hs17 := St.f1 hs15
  refine ops_appendK kWr (bytes := 16) (a' := (some ⟨b16, 0, none⟩)) (c' := 1) (l := (l.take k)) (m := [(((l.map (·.1)).getD k 0), ((vlook l ((l.map (·.1)).getD k 0)).getD 0))]) hs17 (by kernel_rfl) (by simp) (cells_blk (hs17.heapAt 1 rfl)) (by (unfold maxLen; try simp) <;> omega) (by (try simp) <;> omega) (fun a18 c19 w20 hs21 => ?_)
  refine zE 1 ?_
  refine normal_block ?_
  refine hK11 _ _ ?_
  refine W.region ?_
  refine ops_val (v := .int .i64 (IntKind.i64.wrap ((k : Int) + 1))) (v' := .int .i64 ((k + 1 : Nat) : Int)) (by kernel_rfl) (congrArg (Value.int .i64) (wrap_i64 (by omega) (by omega))) ?_
  refine zE 1 ?_
  have e_ := writes_step hok.keys (k := k) (by omega)
  have hs22 := St.tk1 hs21
  rw [e_] at hs22
  exact ⟨(k + 1, a18, c19), ⟨slots_intro _ (by rw [← e_]; kernel_rfl), hs22, by omega⟩, by first | omega | (dsimp only; omega)⟩
 ·
  have h10p := of_decide_eq_false h10
  refine W.exit (exit_seq (exit_seq (exit_here ?_)))
  refine hK4 _ _ ?_
  refine W.sr fun K23 hK23 => ?_
  refine zE 2 (hK23 _ _ ?_)
  refine W.ret ?_
  have e_ : l.take k = l := List.take_of_length_le (by omega)
  have hs_ := hs7
  rw [e_] at hs_
  refine ret_of (.slice a ((l.take k).length) c) (by kernel_rfl) ⟨_, ⟨a, c, by rw [e_], rfl⟩, hs_⟩

end Go.Proofs.YtmmclabkkigiaaaGreatDoor

set_option maxRecDepth 20000
namespace Go.Proofs.YtmmclabkkigiaaaGreatDoor
open Go Go.RowKit
set_option linter.unusedSimpArgs false
set_option linter.unusedVariables false

theorem badf_spec {at_ x_ : Int} {bw n c : Nat} {a : Option Addr} (B : Nat) (w : World) (hb : w.heap[bw]? = some (.cells [.slice a n c].toArray 27 (0, 0))) : Spec Tryz.prog 105 #[(.agg #[(.int .i64 at_), (.int .u64 x_)]), (.pointer (some ⟨bw, 0, none⟩))] B w [] (fun v H' => v = .bool (bad n (at_, x_)) ∧ H' = []) := by
 refine spec_Q Tryz.func105 rfl fun hs => ?_
 refine W.sr fun K1 hK1 => ?_
 refine zN [(.int .i64 at_), (.int .u64 x_)] 137 hs fun b4 w2 hs3 => ?_
 refine zE 1 (hK1 _ _ ?_)
 refine W.sr fun K5 hK5 => ?_
 refine zR 1 ?_
 refine zL ⟨b4, 0, none⟩ (.int .i64 at_) (hs3.cellAt 0 rfl rfl) ?_
 refine zR 2 ?_
 rcases Bool.eq_false_or_eq_true (decide (at_ < 0)) with h6 | h6
 ·
  have h6p := of_decide_eq_true h6
  refine zS 7 h6 ?_
  refine zS 6 h6 ?_
  refine zE 7 (hK5 _ _ ?_)
  refine W.ret ?_
  have hs7 := St.tk0 hs3
  refine ret_of (.bool true) (by kernel_rfl) ⟨_, ⟨(congrArg Value.bool (decide_eq_true (by dsimp only; omega)).symm), rfl⟩, hs7⟩
 ·
  have h6p := of_decide_eq_false h6
  refine zS 7 h6 ?_
  refine zS 6 h6 ?_
  refine zR 1 ?_
  refine zL ⟨b4, 0, none⟩ (.int .i64 at_) (hs3.cellAt 0 rfl rfl) ?_
  refine zL ⟨bw, 0, none⟩ (.slice a n c) (cell_of_blk (hs3.old hb) rfl) ?_
  refine zE 4 (hK5 _ _ ?_)
  refine W.ret ?_
  have hs8 := St.tk0 hs3
  refine ret_of (.bool (decide (at_ ≥ (n : Int)))) (by kernel_rfl) ⟨_, ⟨(congrArg Value.bool (decide_eq_decide.2 (by dsimp only; omega))), rfl⟩, hs8⟩

theorem indexf_spec {la : Option Addr} {lc : Nat} {l : List (Int × Int)} {bw n c : Nat} {a : Option Addr} (B : Nat) (w : World) (hl : CellsAt la (kWr.cells l) w) (hb : w.heap[bw]? = some (.cells [.slice a n c].toArray 27 (0, 0))) (hsz : l.length ≤ 9223372036854775806) : Spec Tryz.prog 129 #[(.slice la l.length lc), (.func (.func 105) #[] #[(.pointer (some ⟨bw, 0, none⟩))])] B w [] (fun v H' => ∃ r : Int, (0 ≤ r ↔ l.any (bad n) = true) ∧ v = .int .i64 r ∧ H' = []) := by
 refine spec_Q Tryz.func129 rfl fun hs => ?_
 refine W.sr fun K1 hK1 => ?_
 refine zE 1 (hK1 _ _ ?_)
 refine W.seq fun K2 hK2 => ?_
 refine W.sr fun K3 hK3 => ?_
 refine zE 3 (hK3 _ _ ?_)
 refine W.block ?_
 refine W.loop (G := Nat) (fun | k, s_, w_ => (∃ us, s_ = slots 19 [(0, (.slice la l.length lc)), (1, (.func (.func 105) #[] #[(.pointer (some ⟨bw, 0, none⟩))])), (7, (.int .i64 (l.length : Int))), (8, (.int .i64 (k : Int)))] us) ∧ St B w [] w_ [] ∧ (k ≤ l.length) ∧ (∀ j, j < k → bad n (l.getD j (0, 0)) = false)) (fun k => l.length - k) 0 ⟨slots_intro _ (by kernel_rfl), hs, Nat.zero_le _, fun j hj => absurd hj (by omega)⟩ ?_
 rintro k _ w4 ⟨⟨us, rfl⟩, hs5, hk_, hk1⟩
 refine W.sr fun K6 hK6 => ?_
 refine zE 1 (hK6 _ _ ?_)
 refine W.seq fun K7 hK7 => ?_
 refine W.cond (decide ((k : Int) < (l.length : Int))) (by kernel_rfl) (fun h8 => ?_) (fun h8 => ?_)
 ·
  have h8p := of_decide_eq_true h8
  refine W.skip ?_
  refine hK7 _ _ ?_
  refine W.seq fun K9 hK9 => ?_
  refine W.block ?_
  refine W.sr fun K10 hK10 => ?_
  refine zE 2 (hK10 _ _ ?_)
  refine W.sr fun K11 hK11 => ?_
  refine zR 3 ?_
  have hk12 : k < l.length := by omega
  refine ops_R (runs_index (a := la) (n := l.length) (z := (k : Int)) (size := 2) k rfl hk12 (kWr.addr (hs5.oldCells hl) hk12) (by kernel_rfl)) ?_
  refine ops_R (runs_loadAgg (cs := [(.int .i64 ((l.getD k (0, 0)).1)), (.int .u64 ((l.getD k (0, 0)).2))]) (by kernel_rfl) (kWr.all (hs5.oldCells hl) hk12 (0, 0) 0 rfl)) ?_
  refine zC00 hs5 (badf_spec (at_ := (l.getD k (0, 0)).1) (x_ := (l.getD k (0, 0)).2) (hb := (hs5.old hb)) B _) fun w13 hs15 => ?_
  refine zD (hK11 _ _ ?_)
  refine W.cond (bad n ((l.getD k (0, 0)).1, (l.getD k (0, 0)).2)) (by kernel_rfl) (fun h16 => ?_) (fun h16 => ?_)
  ·
   have h16p : (bad n ((l.getD k (0, 0)).1, (l.getD k (0, 0)).2)) = true := h16
   refine W.sr fun K17 hK17 => ?_
   refine zE 2 (hK17 _ _ ?_)
   refine W.ret (ret_block (ret_seq (ret_seq (ret_block (ret_seq ?_)))))
   refine ret_of (.int .i64 (k : Int)) (by kernel_rfl) ⟨_, ⟨_, ⟨fun _ => any_of_get (k := k) (by omega) (by assumption), fun _ => by omega⟩, rfl, rfl⟩, hs15⟩
  ·
   have h16p : (bad n ((l.getD k (0, 0)).1, (l.getD k (0, 0)).2)) = false := h16
   refine W.skip ?_
   refine normal_block ?_
   refine hK9 _ _ ?_
   refine W.region ?_
   refine ops_val (v := .int .i64 (IntKind.i64.wrap ((k : Int) + 1))) (v' := .int .i64 ((k + 1 : Nat) : Int)) (by kernel_rfl) (congrArg (Value.int .i64) (wrap_i64 (by omega) (by omega))) ?_
   refine zE 1 ?_
   have hk2 : ∀ j, j < k + 1 → bad n (l.getD j (0, 0)) = false := fun j hj => (Nat.lt_succ_iff_lt_or_eq.1 hj).elim (hk1 j) (fun e => by subst e; assumption)
   exact ⟨k + 1, ⟨slots_intro _ (by kernel_rfl), hs15, by omega, hk2⟩, by first | omega | (dsimp only; omega)⟩
 ·
  have h8p := of_decide_eq_false h8
  refine W.exit (exit_seq (exit_seq (exit_here ?_)))
  refine hK2 _ _ ?_
  refine W.sr fun K18 hK18 => ?_
  refine zE 1 (hK18 _ _ ?_)
  refine W.ret ?_
  refine ret_of (.int .i64 (-1)) (by kernel_rfl) ⟨_, ⟨_, ⟨fun h => absurd h (by decide), fun h => absurd (any_none (fun j hj => hk1 j (by omega))) (by rw [h]; decide)⟩, rfl, rfl⟩, hs5⟩

theorem contains_spec {la : Option Addr} {lc : Nat} {l : List (Int × Int)} {bw n c : Nat} {a : Option Addr} (B : Nat) (w : World) (hl : CellsAt la (kWr.cells l) w) (hb : w.heap[bw]? = some (.cells [.slice a n c].toArray 27 (0, 0))) (hsz : l.length ≤ 9223372036854775806) : Spec Tryz.prog 104 #[(.slice la l.length lc), (.func (.func 105) #[] #[(.pointer (some ⟨bw, 0, none⟩))])] B w [] (fun v H' => v = .bool (l.any (bad n)) ∧ H' = []) := by
 refine spec_Q Tryz.func104 rfl fun hs => ?_
 refine W.sr fun K1 hK1 => ?_
 refine zE 1 (hK1 _ _ ?_)
 refine W.sr fun K2 hK2 => ?_
 refine zR 2 ?_
 refine ops_call0 hs (by kernel_rfl) (indexf_spec (lc := lc) (hsz := hsz) (hl := (hs.oldCells hl)) (hb := (hs.old hb)) B _) ?_
 rintro _ _ w5 ⟨r3, hr4, rfl, rfl⟩ hs6
 have hs7 := St.ap0 hs6
 refine zE 2 (hK2 _ _ ?_)
 refine W.ret ?_
 refine ret_of (.bool (decide (r3 ≥ 0))) (by kernel_rfl) ⟨_, ⟨congrArg Value.bool (by rw [Bool.eq_iff_iff, decide_eq_true_eq]; exact hr4), rfl⟩, hs7⟩

end Go.Proofs.YtmmclabkkigiaaaGreatDoor

set_option maxRecDepth 20000
namespace Go.Proofs.YtmmclabkkigiaaaGreatDoor
open Go Go.RowKit
set_option linter.unusedSimpArgs false
set_option linter.unusedVariables false

theorem apply_spec {wa la : Option Addr} {wc lc : Nat} {words : List Int} {l : List (Int × Int)} {A : Asn} (B : Nat) (w : World) (hA : ∀ {B : Nat} {w : World} {lf : List Nat}, A.P B w lf → CellsAt la (kWr.cells l) w) (hsz : l.length ≤ 9223372036854775806) : Spec Tryz.prog 74 #[(.slice wa words.length wc), (.slice la l.length lc)] B w [kU64.row wa wc words, A] (fun v H' => v = .int .i64 (vapply words l).1 ∧ H' = [kU64.row wa wc (vapply words l).2, A]) := by
 refine spec_W Tryz.func74 rfl fun l0 hs => ?_
 refine W.sr fun K1 hK1 => ?_
 refine zN [(.slice wa words.length wc)] 27 hs fun b4 w2 hs3 => ?_
 refine zE 1 (hK1 _ _ ?_)
 refine W.seq fun K5 hK5 => ?_
 refine W.sr fun K6 hK6 => ?_
 refine zR 2 ?_
 refine zC00 hs3 (contains_spec (lc := lc) (hsz := (by omega)) (hl := (hs3.entAt 2 rfl hA)) (hb := (hs3.heapAt 0 rfl)) B _) fun w7 hs9 => ?_
 refine zD (hK6 _ _ ?_)
 refine W.cond (l.any (bad words.length)) (by kernel_rfl) (fun h10 => ?_) (fun h10 => ?_)
 ·
  have h10p : (l.any (bad words.length)) = true := h10
  refine W.sr fun K11 hK11 => ?_
  refine zE 1 (hK11 _ _ ?_)
  refine W.ret (ret_seq ?_)
  have hs12 := St.f2 hs9
  have hs13 := St.f2 hs12
  have hs14 := St.tk2 hs13
  have e_ : vapply words l = (8, words) := if_pos (by assumption)
  refine ret_of (.int .i64 8) (by kernel_rfl) ⟨_, ⟨by rw [e_], rfl⟩, by rw [e_]; exact hs14⟩
 ·
  have h10p : (l.any (bad words.length)) = false := h10
  refine W.skip ?_
  refine hK5 _ _ ?_
  refine W.seq fun K15 hK15 => ?_
  refine W.sr fun K16 hK16 => ?_
  refine zE 3 (hK16 _ _ ?_)
  refine W.block ?_
  refine W.loop (G := Nat) (fun | k, s_, w_ => (∃ us, s_ = slots 23 [(2, (.pointer (some ⟨b4, 0, none⟩))), (10, (.slice la l.length lc)), (11, (.int .i64 (l.length : Int))), (12, (.int .i64 (k : Int)))] us) ∧ St B w l0 w_ [blk b4 (.cells [(.slice wa words.length wc)].toArray 27 (0, 0)), kU64.row wa wc (vflat words (l.take k)), A] ∧ (k ≤ l.length)) (fun k => l.length - k) 0 ⟨slots_intro _ (by kernel_rfl), hs9, Nat.zero_le _⟩ ?_
  rintro k _ w17 ⟨⟨us, rfl⟩, hs18, hk_⟩
  refine W.sr fun K19 hK19 => ?_
  refine zE 1 (hK19 _ _ ?_)
  refine W.seq fun K20 hK20 => ?_
  refine W.cond (decide ((k : Int) < (l.length : Int))) (by kernel_rfl) (fun h21 => ?_) (fun h21 => ?_)
  ·
   have h21p := of_decide_eq_true h21
   have hin := not_any_get (l := l) (n := words.length) (k := k) (by assumption) (by omega)
   refine W.skip ?_
   refine hK20 _ _ ?_
   refine W.seq fun K22 hK22 => ?_
   refine W.block ?_
   refine W.sr fun K23 hK23 => ?_
   have hk24 : k < l.length := by omega
   refine ops_R (runs_index (a := la) (n := l.length) (z := (k : Int)) (size := 2) k rfl hk24 (kWr.addr (hs18.entAt 2 rfl hA) hk24) (by kernel_rfl)) ?_
   refine ops_R (runs_loadAgg (cs := [(.int .i64 ((l.getD k (0, 0)).1)), (.int .u64 ((l.getD k (0, 0)).2))]) (by kernel_rfl) (kWr.all (hs18.entAt 2 rfl hA) hk24 (0, 0) 0 rfl)) ?_
   refine zN [(.int .i64 0), (.int .u64 0)] 137 hs18 fun b27 w25 hs26 => ?_
   refine ops_store (off := 0) (cs := [(.int .i64 0), (.int .u64 0)]) (vs := [(.int .i64 ((l.getD k (0, 0)).1)), (.int .u64 ((l.getD k (0, 0)).2))]) hs26 (by kernel_rfl) (by simp) rfl (fun w28 hs29 => ?_)
   have hs30 : St B w l0 w28 [blk b27 (.cells [(.int .i64 ((l.getD k (0, 0)).1)), (.int .u64 ((l.getD k (0, 0)).2))].toArray 137 (0, 0)), blk b4 (.cells [(.slice wa words.length wc)].toArray 27 (0, 0)), kU64.row wa wc (vflat words (l.take k)), A] := hs29
   refine zD (hK23 _ _ ?_)
   refine W.region ?_
   refine zL ⟨b4, 0, none⟩ (.slice wa words.length wc) (hs30.cellAt 1 rfl rfl) ?_
   refine zR 1 ?_
   refine zL ⟨b27, 0, none⟩ (.int .i64 ((l.getD k (0, 0)).1)) (hs30.cellAt 0 rfl rfl) ?_
   refine zR 1 ?_
   refine zL ⟨b27, 1, none⟩ (.int .u64 ((l.getD k (0, 0)).2)) (hs30.cellAt 0 rfl rfl) ?_
   have hk31 : ((l.getD k (0, 0)).1).toNat < words.length := by omega
   have hk32 : ((l.getD k (0, 0)).1).toNat < (vflat words (l.take k)).length := (by rw [vflat_length]; exact hk31)
   refine ops_R (runs_index (a := wa) (n := words.length) (z := (l.getD k (0, 0)).1) (size := 1) (((l.getD k (0, 0)).1).toNat) (by omega) hk31 (kU64.addr (St.kcells kU64 hs30 2 rfl) hk32) (by kernel_rfl)) ?_
   have hs35 := St.f2 hs30
   refine ops_storeK kU64 (j := 0) (vs := [(.int .u64 ((l.getD k (0, 0)).2))]) 0 ((l.getD k (0, 0)).2) hs35 hk32 (Nat.le_of_ble_eq_true rfl) (by simp) rfl rfl (by kernel_rfl) (fun w33 hs34 => ?_)
   refine zD ?_
   refine normal_block ?_
   refine hK22 _ _ ?_
   refine W.region ?_
   refine ops_val (v := .int .i64 (IntKind.i64.wrap ((k : Int) + 1))) (v' := .int .i64 ((k + 1 : Nat) : Int)) (by kernel_rfl) (congrArg (Value.int .i64) (wrap_i64 (by omega) (by omega))) ?_
   refine zE 1 ?_
   have e_ := vflat_step words (l := l) (k := k) (by omega)
   have hs37 := St.f3 hs34
   have hs38 := St.f1 hs37
   have hs39 := St.f3 hs38
   have hs40 := St.tk3 hs39
   rw [e_] at hs40
   exact ⟨k + 1, ⟨slots_intro _ (by kernel_rfl), hs40, by omega⟩, by first | omega | (dsimp only; omega)⟩
  ·
   have h21p := of_decide_eq_false h21
   refine W.exit (exit_seq (exit_seq (exit_here ?_)))
   refine hK15 _ _ ?_
   refine W.sr fun K41 hK41 => ?_
   refine zE 1 (hK41 _ _ ?_)
   refine W.ret ?_
   have hs42 := St.f2 hs18
   have hs43 := St.f2 hs42
   have hs44 := St.tk2 hs43
   have hno : ¬ (l.any (bad words.length)) = true := by simp only [‹l.any (bad words.length) = false›]; decide
   have e_ : vapply words l = (0, vflat words l) := if_neg hno
   have e2_ : l.take k = l := List.take_of_length_le (by omega)
   have hs_ := hs44
   rw [e2_] at hs_
   refine ret_of (.int .i64 0) (by kernel_rfl) ⟨_, ⟨by rw [e_], rfl⟩, by rw [e_]; exact hs_⟩

theorem flat_spec {p : Value} {img : List Int} {l : List (Int × Int)} (B : Nat) (w : World) (hv : ViewAt p img l w) : Spec Tryz.prog 36 #[p] B w [] (fun v H' => ∃ a' c', v = .slice a' (vflat img l).length c' ∧ H' = [kU64.row a' c' (vflat img l)]) := by
 refine spec_Q Tryz.func36 rfl fun hs => ?_
 have hv0 := hv
 obtain ⟨x, rfl, hok, hb, hi, hm, ho, hcap⟩ := hv
 have hroom := hok.many
 refine W.sr fun K1 hK1 => ?_
 refine zE 1 (hK1 _ _ ?_)
 refine W.seq fun K2 hK2 => ?_
 refine W.sr fun K3 hK3 => ?_
 refine zE 2 (hK3 _ _ ?_)
 refine W.cond_false false (by kernel_rfl) rfl ?_
 refine W.skip ?_
 refine hK2 _ _ ?_
 refine W.sr fun K4 hK4 => ?_
 refine zR 3 ?_
 refine zL ⟨x.b, 0, none⟩ (.slice x.ia img.length x.ic) (cell_of_blk (hs.old hb) rfl) ?_
 refine ops_call0 hs (by kernel_rfl) (clone_spec (hc := (hs.oldCells hi)) (hn := hcap) (hsz := hok.size) B _) ?_
 rintro _ _ w7 ⟨a5, c6, rfl, rfl⟩ hs8
 have hs9 := St.ap1 hs8
 refine zE 1 (hK4 _ _ ?_)
 refine W.sr fun K10 hK10 => ?_
 refine zR 2 ?_
 refine ops_call0 hs9 (by kernel_rfl) (writes_spec (hv := (viewAt_old hs9 hv0)) B _) ?_
 rintro _ _ w13 ⟨a11, c12, rfl, rfl⟩ hs14
 have hs15 := St.ap1 hs14
 have hs16 := St.f1 hs15
 refine zC22 hs16 (apply_spec (wa := a5) (wc := c6) (la := a11) (lc := c12) (words := img) (l := l) (A := kWr.row a11 c12 l) (hA := (fun h => rowA_cells h)) (hsz := (by omega)) B _) fun w17 hs19 => ?_
 refine zD (hK10 _ _ ?_)
 refine W.sr fun K20 hK20 => ?_
 refine zE 2 (hK20 _ _ ?_)
 refine W.ret ?_
 have hs21 := St.tk1 hs19
 have e_ : vapply img l = (0, vflat img l) := if_neg (by rw [inside_any hok.inside]; decide)
 have hs_ := hs21
 rw [e_] at hs_
 refine ret_of (.slice a5 img.length c6) (by kernel_rfl) ⟨_, ⟨a5, c6, by rw [vflat_length], rfl⟩, hs_⟩

end Go.Proofs.YtmmclabkkigiaaaGreatDoor

namespace Go.Proofs.YtmmclabkkigiaaaGreatDoor
open Go Go.RowKit

def shlK (k : IntKind) (x y : Int) : Int := k.wrap (x * 2 ^ (min y.toNat k.bits))
def shrK (k : IntKind) (x y : Int) : Int := x.fdiv (2 ^ (min y.toNat k.bits))

section
variable {P : Program} {ops : Array Oper} {i : Nat} {s : Fs} {w : World}

def shQ (ops : Array Oper) (i : Nat) (s : Fs) : Option (Bool × IntKind × Int × Int) :=
  match opQ ops i s with
  | some o => match o.op with
    | .binOp op _ x y _ => match op, evS s x, evS s y with
      | .shl, .int k a, .int _ b => some (true, k, a, b)
      | .shr, .int k a, .int _ b => some (false, k, a, b)
      | _, _, _ => none
    | _ => none
  | none => none

theorem run_guard_none (op : BinOp) (t : TypeId) (x y : Operand) (a b : Value) (h : op = .shl ∨ op = .shr) (w : World) : (eqGuard op t x y a b).run P w = .ok () w := by
  unfold eqGuard
  rcases h with rfl | rfl <;> rfl

theorem runs_shift {b : Bool} {k : IntKind} {x y : Int} (hq : shQ ops i s = some (b, k, x, y)) (hy : 0 ≤ y) : RunsTo P ops i s w (.int k (match b with | true => shlK k x y | false => shrK k x y)) w := by
  unfold shQ at hq
  split at hq
  · rename_i o ho
    split at hq
    · rename_i op t x' y' yt hop
      refine ⟨o, ho, ?_⟩
      split at hq
      · rename_i k1 a1 k2 b1 hx hy'
        cases hq
        simp only [execOp, hop, hx, hy', Sem.run_bind, run_guard_none _ _ _ _ _ _ (.inl rfl), Result.andThen_ok, binOp, Op.shift, if_neg (Int.not_lt.2 hy), Sem.run_pure]
        rfl
      · rename_i k1 a1 k2 b1 hx hy'
        cases hq
        simp only [execOp, hop, hx, hy', Sem.run_bind, run_guard_none _ _ _ _ _ _ (.inr rfl), Result.andThen_ok, binOp, Op.shift, if_neg (Int.not_lt.2 hy), Sem.run_pure]
        rfl
      · cases hq
    · cases hq
  · cases hq
end
end Go.Proofs.YtmmclabkkigiaaaGreatDoor

namespace Go.Proofs.YtmmclabkkigiaaaGreatDoor
open Go Go.RowKit

def tab8 : List Value := Lib.deBruijn64tab.map fun (z : Nat) => Value.int .u8 (Int.ofNat z)

theorem shrK_58 (z : Int) : shrK .u64 z 58 = z / 288230376151711744 := by
  unfold shrK
  rw [show (min (58 : Int).toNat IntKind.u64.bits) = 58 from rfl]
  exact Int.fdiv_eq_ediv_of_nonneg _ (by decide)

theorem tab8_len : Lib.deBruijn64tab.length = 64 := by decide +kernel

theorem tab8_at {i k : Nat} (hi : i < 64) (h : Lib.deBruijn64tab.getD i 0 = k) : tab8[i]? = some (.int .u8 (k : Int)) := by
  have hl : i < Lib.deBruijn64tab.length := by rw [tab8_len]; exact hi
  unfold tab8
  rw [List.getElem?_map, List.getElem?_eq_getElem hl]
  rw [List.getD_eq_getElem?_getD, List.getElem?_eq_getElem hl] at h
  have ht : Lib.deBruijn64tab[i] = k := h
  rw [ht]; rfl

theorem tz_at {x y : Int} (h0 : 0 ≤ x ∧ x < 18446744073709551616) (hx : ¬ x = 0) (hy : bits .and .u64 x (IntKind.u64.wrap (0 - x)) = y) :
    ∃ k : Nat, k < 64 ∧ shrK .u64 ((y * 285870213051353865) % 18446744073709551616) 58 = (k : Int) ∧ tab8[k]? = some (.int .u8 (Lib.ctz 64 x.toNat : Int)) := by
  rw [Int.zero_sub] at hy
  subst hy
  obtain ⟨n, rfl⟩ := Int.eq_ofNat_of_zero_le h0.1
  have hn : n < 18446744073709551616 := by omega
  have hn0 : n ≠ 0 := by omega
  obtain ⟨hlow, hk⟩ := Lib.lowest_bit 64 n hn0 hn
  obtain ⟨hi, htab⟩ := Lib.deBruijn64_at _ hk
  refine ⟨_, hi, ?_, ?_⟩
  · rw [← IntKind.wrap_u64, shrK_58]; exact tz64_key n _ hn hn0 hlow
  · exact tab8_at hi htab

theorem ctz_le {x : Int} (h0 : 0 ≤ x ∧ x < 18446744073709551616) (hx : ¬ x = 0) : Lib.ctz 64 x.toNat < 64 := (Lib.lowest_bit 64 x.toNat (by omega) (by omega)).2
end Go.Proofs.YtmmclabkkigiaaaGreatDoor

namespace Go.Proofs.YtmmclabkkigiaaaGreatDoor
open Go.ChangeShapes Go.WideShapes Go.ChangeAt Go.RowKit Go.Deep

theorem law_own : ownKnob Tryz.prog.godebug = none := by kernel_rfl
theorem law_laid : laidOutB Tryz.prog = true := by kernel_rfl

theorem law_calls {P : Program} {f : FuncId} {args : Array Value} {w : World} (h : Spec P f args w.heap.size w [] (fun v H' => v = .bool true ∧ H' = [])) :
    Calls P f args w fun e w' => e = .returned (.bool true) ∧ Below w.heap.size w w' := by
  refine (h [] (Nat.le_refl _) (fun _ hb => (List.not_mem_nil hb).elim)).mono ?_
  rintro e w' ⟨v, rfl, H', l', ⟨rfl, rfl⟩, hs, hu⟩
  exact ⟨rfl, hu.os, hu.tape, hu.output, hu.size, fun k hk => hu.block k hk (by simp)⟩

section
variable {H : Type} {enc : TypeId × Value → H} {P : Program}

theorem law_trods (hl : laidOutB P = true) {W W' : World} (hB : Below W.heap.size W W') : ∀ {ts : List TypeId} {vs : List Value} {ds : List (DataW H)} {ps : List MemPlace},
    (ts.all fun t => P.readableRec t && decide (t < P.types.size)) = true → DataW.TrodAll enc P W 0 (fun _ => true) true ts vs ds ps → (∀ x ∈ ps, x.block < W.heap.size) → DataW.TrodAll enc P W' 0 (fun b => decide (b < W.heap.size)) true ts vs ds ps
  | [], [], [], _, _, h, _ => h
  | t :: ts, v :: vs, d :: ds, ps, hp, h, hlt => by
    obtain ⟨p, q, h1, h2, rfl⟩ := h
    simp only [List.all_cons, Bool.and_eq_true, decide_eq_true_eq] at hp
    exact ⟨p, q, Below.trod hl hp.1.1 hp.1.2 h1 hB (fun x hx => hlt x (List.mem_append_left _ hx)), law_trods hl hB hp.2 h2 (fun x hx => hlt x (List.mem_append_right _ hx)), rfl⟩

theorem law_post {s : ChangeSpec} {f : Func} {tb : TypeId} {W W' : World} {args : Array Value} {ds gs : List (DataW H)} {before : List MemPlace} (hl : laidOutB P = true)
    (hp : (f.params.toList.all fun t => P.readableRec t && decide (t < P.types.size)) = true) (hv : s.vars = []) (hr : f.resultTypes = #[tb]) (hb : P.underlying tb = some .bool)
    (hW : DataW.Whole enc P f.params.toList s.vars false W args.toList ds gs before) (hB : Below W.heap.size W W') (hfn : (s.fn H ds).results = [.lit (.bool true)] ∧ (s.fn H ds).args = ds ∧ (s.fn H ds).vars = []) :
    ∃ v, (Ending.returned (.bool true)) = .returned v ∧ s.post enc P f false true false false W args v W' := by
  have hW' := hW
  obtain ⟨p, q, hA, hV, rfl, _, _⟩ := hW'
  rw [hv] at hV
  obtain ⟨rfl, rfl⟩ := trodVars_none hV
  have hlt : ∀ x ∈ p ++ [], x.block < W.heap.size := fun x hx => hW.lt x hx
  have e : ds ++ [] = ds := List.append_nil ds
  refine ⟨_, rfl, ds, [], p ++ [], [], p, [], hW, ?_, ?_, ?_, hB.frame _, fun h => by cases h⟩
  · rw [e, hfn.1, hr]; exact trodAll_mk1 (shut_bool hb true)
  · rw [e, hfn.2.1]; exact law_trods hl hB hp hA (fun x hx => hlt x (by simpa using hx))
  · rw [e, hfn.2.2, hv]; exact rfl
end

section
variable {α : Type} (K : Kind α) {H : Type} {enc : TypeId × Value → H} {P : Program} {w : World} {base : Nat} {sp : Nat → Bool}

end
end Go.Proofs.YtmmclabkkigiaaaGreatDoor

namespace Go.Proofs.YtmmclabkkigiaaaGreatDoor
open Go.ChangeShapes Go.WideShapes Go.ChangeAt Go.RowKit Go.Deep

theorem laid_tab {W : World} (h : laidMetH Tryz.prog Rows.entryNamesRow.laid W) : CellsAt (some ⟨1, 0, none⟩) tab8 W := by
  rw [MakeChecks.laidMetH_plain _ _ _ (by kernel_rfl)] at h
  have hg : Tryz.prog.globalNamed "math/bits.deBruijn64tab" = some 1 := by kernel_rfl
  have ht : Lib.TabIs Tryz.prog W "math/bits.deBruijn64tab" .u8 (Lib.deBruijn64tab.map Int.ofNat) :=
    Lib.tabIs_of_head (rest := []) hg (by kernel_rfl) Tryz.underlying224 Tryz.underlying5 (by kernel_rfl) (by kernel_rfl) h
  intro j v hj
  unfold tab8 at hj
  rw [List.getElem?_map] at hj
  obtain ⟨z, hz, rfl⟩ := Option.map_eq_some_iff.1 hj
  have hlt : j < (Lib.deBruijn64tab.map Int.ofNat).length := by rw [List.length_map]; exact (List.getElem?_eq_some_iff.1 hz).1
  have hc := ht.cell hg j hlt
  rw [List.getD_eq_getElem?_getD, List.getElem?_map, hz] at hc
  have e : Addr.add ⟨1, 0, none⟩ j = ⟨1, j, none⟩ := by unfold Addr.add; split <;> simp_all
  rw [e]; simpa using hc

theorem door_met (os : Os) (args : Array Value) : laidMetH Tryz.prog Rows.entryNamesRow.laid ((World.doorLaid Tryz.prog 400 os).forCall (fun _ _ => 0) ⟨#[], args, []⟩).memory :=
  laidMetH_of_parts3 (fuel := 8) (laidMet_of_run' 8 (by kernel_rfl) (by kernel_rfl)) (by kernel_rfl) (by kernel_rfl)
end Go.Proofs.YtmmclabkkigiaaaGreatDoor

namespace Go.Proofs.YtmmclabkkigiaaaGreatDoor
open Go
set_option linter.unusedSimpArgs false
theorem decode_big (s : ByteArray) (pos : Nat) (h : pos < s.size) (hb : 128 ≤ (s.get! pos).toNat) :
    128 ≤ (Utf8.decode s pos).1 ∧ (Utf8.decode s pos).1 < 2097152 ∧ 1 ≤ (Utf8.decode s pos).2 ∧ pos + (Utf8.decode s pos).2 ≤ s.size ∧ ∀ j, pos ≤ j → j < pos + (Utf8.decode s pos).2 → 128 ≤ (s.get! j).toNat := by
  have one : ∀ j, pos ≤ j → j < pos + 1 → 128 ≤ (s.get! j).toNat := fun j a b => by
    rw [show j = pos by omega]; exact hb
  have err : 128 ≤ Utf8.runeError ∧ Utf8.runeError < 2097152 := by decide
  unfold Utf8.decode
  simp only [Nat.add_zero]
  rw [if_neg (by omega)]
  split
  · rename_i h1
    simp only [Bool.and_eq_true, beq_iff_eq, decide_eq_true_eq] at h1
    split
    · rename_i h2
      refine ⟨h2, by simp only; omega, by simp only; omega, by simp only; omega, fun j a b => ?_⟩
      simp only at b
      by_cases e : j = pos
      · rw [e]; exact hb
      · rw [show j = pos + 1 by omega]; omega
    · exact ⟨err.1, err.2, by simp only; omega, by simp only; omega, one⟩
  · split
    · rename_i h1
      simp only [Bool.and_eq_true, beq_iff_eq, decide_eq_true_eq] at h1
      split
      · rename_i h2
        simp only [Bool.and_eq_true, decide_eq_true_eq] at h2
        refine ⟨by simp only; omega, by simp only; omega, by simp only; omega, by simp only; omega, fun j a b => ?_⟩
        simp only at b
        by_cases e : j = pos
        · rw [e]; exact hb
        · by_cases e1 : j = pos + 1
          · rw [e1]; omega
          · rw [show j = pos + 2 by omega]; omega
      · exact ⟨err.1, err.2, by simp only; omega, by simp only; omega, one⟩
    · split
      · rename_i h1
        simp only [Bool.and_eq_true, beq_iff_eq, decide_eq_true_eq] at h1
        split
        · rename_i h2
          simp only [Bool.and_eq_true, decide_eq_true_eq] at h2
          refine ⟨by simp only; omega, by simp only; omega, by simp only; omega, by simp only; omega, fun j a b => ?_⟩
          simp only at b
          by_cases e : j = pos
          · rw [e]; exact hb
          · by_cases e1 : j = pos + 1
            · rw [e1]; omega
            · by_cases e2 : j = pos + 2
              · rw [e2]; omega
              · rw [show j = pos + 3 by omega]; omega
        · exact ⟨err.1, err.2, by simp only; omega, by simp only; omega, one⟩
      · exact ⟨err.1, err.2, by simp only; omega, by simp only; omega, one⟩
theorem run_next_at {P : Program} (w : World) (b : Nat) (s : ByteArray) (pos : Nat) (ty : TypeId) (hb : w.heap[b]? = some (.stringIter s pos)) (h : pos < s.size) :
    (Instr.next (.pointer (some ⟨b, 0, none⟩)) true ty).run P w = .ok (.tuple #[.bool true, .int .i64 pos, .int .i32 (Utf8.decode s pos).1]) { w with heap := w.heap.setIfInBounds b (.stringIter s (pos + (Utf8.decode s pos).2)) } := by
  simp only [Instr.next, getObj, setObj, Sem.run_bind, Sem.run, hb, Result.andThen, h, if_true]
  simp [goInt, Sem.run, hb]
theorem run_next_stop {P : Program} (w : World) (b : Nat) (s : ByteArray) (pos : Nat) (ty : TypeId) (hb : w.heap[b]? = some (.stringIter s pos)) (h : ¬ pos < s.size) :
    (Instr.next (.pointer (some ⟨b, 0, none⟩)) true ty).run P w = .ok (.tuple #[.bool false]) w := by
  simp [Instr.next, getObj, Sem.run, hb, h]
end Go.Proofs.YtmmclabkkigiaaaGreatDoor

namespace Go.Proofs.YtmmclabkkigiaaaGreatDoor
open Go.Shelf Go.RowKit Go.Lib
set_option linter.unusedSimpArgs false
set_option linter.unusedVariables false
variable {P : Program} {ρ : Ren}
def chars2 : ByteArray := ⟨#[47, 0]⟩

set_option maxHeartbeats 4000000 in
set_option maxRecDepth 1000000 in
theorem irune_invalid (L : Lays.n152 P ρ) (s : ByteArray) (r : Int) (w : World) (h0 : 128 ≤ r) (hv : Lib.validRune r = false) (h3 : r ≠ 65533) :
    Calls P (ρ.f 152) #[.string s, .int .i32 r] w fun e w' => e = .returned (.int .i64 (-1)) ∧ w' = w := by
  have t3 := L.t3; have a3 := L.a3; have z3 := L.z3; have v3 := L.v3
  have t4 := L.t4; have a4 := L.a4; have z4 := L.z4; have v4 := L.v4
  have t5 := L.t5; have a5 := L.a5; have z5 := L.z5; have v5 := L.v5
  have t9 := L.t9; have a9 := L.a9; have z9 := L.z9; have v9 := L.v9
  have t21 := L.t21; have a21 := L.a21; have z21 := L.z21; have v21 := L.v21
  have e119 : ∀ args w, (callFunc (ρ.f 119) args).run P w = .ok (.enter (ρ.f 119) args) w := enters_of L.f119 (by kernel_rfl) rfl
  have hr : (r == 65533) = false := beq_eq_false_iff_ne.2 h3
  have hlt : ¬ r < 128 := by omega
  have hle : 0 ≤ r := by omega
  go_enter L.f152, Body.n152_ntmps ρ
  go_wp2_with (go_at_fn (ρ.f 119); refine (Any.utf8_ValidRune { L with } _ _).mono ?_; rintro e w' ⟨rfl, hw⟩; rw [hw, hv])
  go_ret
  exact ⟨rfl, rfl⟩

set_option maxHeartbeats 8000000 in
set_option maxRecDepth 1000000 in
theorem irune_valid (L : Lays.n152 P ρ) (r : Int) (w : World) (h0 : 128 ≤ r) (hv : Lib.validRune r = true) (h3 : r ≠ 65533) :
    Calls P (ρ.f 152) #[.string chars2, .int .i32 r] w fun e w' => e = .returned (.int .i64 (-1)) ∧ ∃ n, w' = w.drewN n := by
  have t3 := L.t3; have a3 := L.a3; have z3 := L.z3; have v3 := L.v3
  have t4 := L.t4; have a4 := L.a4; have z4 := L.z4; have v4 := L.v4
  have t5 := L.t5; have a5 := L.a5; have z5 := L.z5; have v5 := L.v5
  have t9 := L.t9; have a9 := L.a9; have z9 := L.z9; have v9 := L.v9
  have t21 := L.t21; have a21 := L.a21; have z21 := L.z21; have v21 := L.v21
  have e119 : ∀ args w, (callFunc (ρ.f 119) args).run P w = .ok (.enter (ρ.f 119) args) w := enters_of L.f119 (by kernel_rfl) rfl
  have e137 : ∀ args w, (callFunc (ρ.f 137) args).run P w = .ok (.enter (ρ.f 137) args) w := enters_of L.f137 (by kernel_rfl) rfl
  have hr : (r == 65533) = false := beq_eq_false_iff_ne.2 h3
  have hlt : ¬ r < 128 := by omega
  have hle : 0 ≤ r := by omega
  have hU : Utf8.valid r = true := by rw [validRune_eq]; unfold Lib.validRune at hv; unfold Go.validRune; simpa using hv
  have hE := encode_facts r hU h0
  obtain ⟨E, eE⟩ : ∃ E, Utf8.encode r = E := ⟨_, rfl⟩
  rw [eE] at hE
  obtain ⟨g1, g2, g3⟩ := hE
  have g3' := g3 (by omega)
  have hcs : chars2.size = 2 := rfl
  go_enter L.f152, Body.n152_ntmps ρ
  go_wp2_with (go_at_fn (ρ.f 119); refine (Any.utf8_ValidRune { L with } _ _).mono ?_; rintro e w' ⟨rfl, hw⟩; rw [hw, hv])
  go_step3
  go_wp2
  by_cases h3 : 3 ≤ E.size
  · go_loopg [9] 1 (fun g s9 wx => s9 = .int .i64 ((E.size : Int) - 1) ∧ wx = w)
    case atStart => exact ⟨rfl, rfl⟩
    case round =>
      obtain ⟨rfl, rfl⟩ := hrel
      have hnl : ¬ ((E.size : Int) - 1 < (chars2.size : Int)) := by rw [hcs]; omega
      go_wp2
      go_ret
      exact ⟨rfl, 0, rfl⟩
  have hE2 : E.size = 2 := by omega
  have mixed := L.mixed
  have u3 := run_underlying L.t3; have u4 := run_underlying L.t4; have u5 := run_underlying L.t5; have u9 := run_underlying L.t9
  have hE1 : ((E.size : Nat) : Int) - 1 = 1 := by omega
  simp only [hE1]
  go_loopg [9] 1 (fun g s9 wx => s9 = .int .i64 1 ∧ wx = w)
  case atStart => exact ⟨rfl, rfl⟩
  case round =>
    obtain ⟨rfl, rfl⟩ := hrel
    have hyl : ((1 : Int) < (chars2.size : Int)) := by rw [hcs]; omega
    have hyE : ((1 : Int) < (E.size : Int)) := by omega
    go_wp2
    go_step3
    go_wp2
    have hb0 : chars2[1]'(by rw [hcs]; omega) = 0 := rfl
    have hne : ((0 : Int) != ((E[1].toNat : Nat) : Int)) = true := by
      have : 128 ≤ E[1].toNat := by
        have e : E.size - 1 = 1 := by omega
        simp only [e] at g3'
        exact g3'
      exact bne_iff_ne.2 (by omega)
    go_quiet_o (fail)
    go_wp2
    have h2le : (2 : Int) ≤ (chars2.size : Int) := by rw [hcs]; omega
    have hsl : (0 : Int) ≤ 2 ∧ (2 : Int) ≤ (chars2.size : Int) := ⟨by omega, h2le⟩
    have hwr : IntKind.i64.wrap 2 = 2 := by decide
    have hslice : ∀ w, (Instr.sliceAt (ρ.t 9) (.string chars2) (some (.int .i64 2)) none none).run P w = .ok (.string ByteArray.empty) w := fun w => by
      have h := run_slice_string_from_if (P := P) w (ρ.t 9) chars2 .i64 2 t9
      rw [if_pos hsl] at h
      unfold Instr.sliceAt
      simp only [Sem.run_bind, u9, Result.andThen_ok]
      exact h
    go_quiet_o (first | (go_at_fn (ρ.f 137); refine (Any.strings_IndexByte { L with } _ _ _).mono ?_; rintro e w' ⟨rfl, rfl⟩; exact ⟨rfl, _, rfl⟩))
    have hio : Lib.indexByte (ByteArray.empty.data.toList) ((E[1].toNat : Nat) : Int).toNat.toUInt8 = -1 := rfl
    go_wp2
    go_simp
    go_ret
    exact ⟨rfl, _, rfl⟩

set_option maxHeartbeats 8000000 in
set_option maxRecDepth 1000000 in
theorem irune_err (L : Lays.n152 P ρ) (w : World) :
    Calls P (ρ.f 152) #[.string chars2, .int .i32 65533] w fun e w' => e = .returned (.int .i64 (-1)) ∧ ∃ pos, w' = w.iter chars2 pos := by
  have t3 := L.t3; have a3 := L.a3; have z3 := L.z3; have v3 := L.v3
  have t4 := L.t4; have a4 := L.a4; have z4 := L.z4; have v4 := L.v4
  have t5 := L.t5; have a5 := L.a5; have z5 := L.z5; have v5 := L.v5
  have t9 := L.t9; have a9 := L.a9; have z9 := L.z9; have v9 := L.v9
  have t21 := L.t21; have a21 := L.a21; have z21 := L.z21; have v21 := L.v21
  have hr : ((65533 : Int) == 65533) = true := rfl
  have hlt : ¬ (65533 : Int) < 128 := by omega
  have hle : (0 : Int) ≤ 65533 := by omega
  have hcs : chars2.size = 2 := rfl
  go_enter L.f152, Body.n152_ntmps ρ
  go_wp2
  go_loopg [5, 6] 2 (fun g _ _ wx => ∃ i : Nat, i + g = 2 ∧ wx = w.iter chars2 i)
  case atStart => exact ⟨0, rfl, rfl⟩
  case round =>
    obtain ⟨i, hig, rfl⟩ := hrel
    cases gk with
    | zero =>
      obtain rfl : i = 2 := by omega
      have hnx := fun ty => run_next_end (P := P) w chars2 2 ty (by rw [hcs]; omega)
      go_wp2
      go_ret
      exact ⟨rfl, _, rfl⟩
    | succ g =>
      have hi : i < chars2.size := by rw [hcs]; omega
      have hx128 : (chars2[i]'hi).toNat < 128 := by
        rcases (show i = 0 ∨ i = 1 by omega) with rfl | rfl
        · show (47 : UInt8).toNat < 128; decide
        · show (0 : UInt8).toNat < 128; decide
      have hnx := fun ty => run_next_ascii (P := P) w chars2 i ty hi hx128
      obtain ⟨z, hz⟩ : ∃ z : Nat, (chars2[i]'hi).toNat = z := ⟨_, rfl⟩
      rw [hz] at hnx hx128
      have hzn : ((z : Int) == 65533) = false := beq_eq_false_iff_ne.2 (by omega)
      go_wp2
      go_roundg g
      case measure => omega
      case rel => exact ⟨i + 1, by omega, rfl⟩

theorem irune_big (L : Lays.n152 P ρ) (r : Int) (w : World) (h0 : 128 ≤ r) :
    Calls P (ρ.f 152) #[.string chars2, .int .i32 r] w fun e w' => e = .returned (.int .i64 (-1)) ∧ Below w.heap.size w w' := by
  by_cases h3 : r = 65533
  · subst h3
    refine (irune_err L w).mono fun e w' ⟨h1, pos, h2⟩ => ⟨h1, ?_⟩
    rw [h2]
    exact (Below.refl _ _).alloc (Nat.le_refl _) _
  · cases hv : Lib.validRune r with
    | false => exact (irune_invalid L chars2 r w h0 hv h3).mono fun e w' ⟨h1, h2⟩ => ⟨h1, h2 ▸ Below.refl _ _⟩
    | true =>
      refine (irune_valid L r w h0 hv h3).mono fun e w' ⟨h1, n, h2⟩ => ⟨h1, ?_⟩
      rw [h2]
      exact ⟨rfl, rfl, rfl, Nat.le_refl _, fun _ _ => rfl⟩
theorem noAny_add {s chars : List UInt8} {i : Nat} : ∀ {k : Nat}, Lib.NoAny s chars i → (∀ j, i ≤ j → j < i + k → ∃ x, s[j]? = some x ∧ chars.contains x = false) → Lib.NoAny s chars (i + k)
  | 0, h, _ => h
  | k + 1, h, hx => by
    have ih := noAny_add (k := k) h fun j a b => hx j a (by omega)
    obtain ⟨x, x1, x2⟩ := hx (i + k) (by omega) (by omega)
    exact ih.succ x1 x2

set_option maxHeartbeats 8000000 in
set_option maxRecDepth 1000000 in
theorem iany_short (L : Lays.n153 P ρ) (s : ByteArray) (w : World) (h8 : s.size ≤ 8) :
    Calls P (ρ.f 153) #[.string s, .string chars2] w fun e w' => e = .returned (.int .i64 (Lib.indexAny s.data.toList chars2.data.toList)) ∧ Below w.heap.size w w' := by
  have hemp : chars2.toList.isEmpty = false := by
    rw [Lib.toList_data]; rfl
  have hcs : chars2.size = 2 := rfl
  have hn1 : ((chars2.size : Int) == 1) = false := beq_eq_false_iff_ne.2 (by omega)
  have h8z : decide ((8 : Int) < (s.size : Int)) = false := decide_eq_false (by omega)
  have t3 := L.t3; have a3 := L.a3; have z3 := L.z3; have v3 := L.v3
  have t4 := L.t4; have a4 := L.a4; have z4 := L.z4; have v4 := L.v4
  have t5 := L.t5; have a5 := L.a5; have z5 := L.z5; have v5 := L.v5
  have t9 := L.t9; have a9 := L.a9; have z9 := L.z9; have v9 := L.v9
  have t21 := L.t21; have a21 := L.a21; have z21 := L.z21; have v21 := L.v21
  have e152 : ∀ args w, (callFunc (ρ.f 152) args).run P w = .ok (.enter (ρ.f 152) args) w := enters_of L.f152 (by kernel_rfl) rfl
  have e226 : ∀ args w, (callFunc (ρ.f 226) args).run P w = .ok (.enter (ρ.f 226) args) w := enters_of L.f226 (by kernel_rfl) rfl
  go_enter L.f153, Body.n153_ntmps ρ
  go_wp2_with (go_at_fn (ρ.f 226); refine (Any.strings_shouldUseASCIISet { L with } _ _).mono ?_; rintro e w' ⟨rfl, hw⟩; rw [hw, h8z])
  go_loopg [9, 10] s.size (fun g _ _ wx => ∃ i : Nat, i + g = s.size ∧ wx.heap[w.heap.size]? = some (.stringIter s i) ∧ Below w.heap.size w wx ∧ Lib.NoAny s.data.toList chars2.data.toList i)
  case atStart => exact ⟨0, by omega, World.iter_heap w s 0, (Below.refl _ _).alloc (Nat.le_refl _) _, Lib.NoAny.zero _ _⟩
  case round =>
    obtain ⟨i, hig, hit, hbel, hno⟩ := hrel
    have HN : Aside (Lib.NoAny s.data.toList chars2.data.toList i) := hno
    clear hno
    have hlt : w.heap.size < wr.heap.size := (Array.getElem?_eq_some_iff.1 hit).1
    cases gk with
    | zero =>
      obtain rfl : i = s.size := by omega
      have hnx := fun ty => run_next_stop (P := P) wr w.heap.size s s.size ty hit (by omega)
      have HB : Aside (Below w.heap.size w wr) := hbel
      clear hbel hit
      go_wp2
      go_ret
      exact ⟨by rw [Lib.indexAny_none (by rw [← Lib.size_eq]; exact HN.out)]; rfl, HB.out⟩
    | succ g =>
      have hi : i < s.size := by omega
      obtain ⟨x, hx⟩ : ∃ x : UInt8, s[i]'hi = x := ⟨_, rfl⟩
      have hxl : s.data.toList[i]? = some x := by rw [← hx]; exact Lib.data_getElem? s i hi
      have hget : s.get! i = x := by
        rw [← hx]
        simp [ByteArray.get!, getElem!_pos, hi]
        rfl
      obtain ⟨r, k, hdk⟩ : ∃ r k, Utf8.decode s i = (r, k) := ⟨_, _, rfl⟩
      have hnx := fun ty => run_next_at (P := P) wr w.heap.size s i ty hit hi
      rw [hdk] at hnx
      simp only at hnx
      obtain ⟨wn, hwn⟩ : ∃ wn, { wr with heap := wr.heap.setIfInBounds w.heap.size (.stringIter s (i + k)) } = wn := ⟨_, rfl⟩
      rw [hwn] at hnx
      have f1 : wn.heap[w.heap.size]? = some (.stringIter s (i + k)) := by
        rw [← hwn]
        simp [Array.getElem?_setIfInBounds, hlt]
      have f2 : Below w.heap.size w wn := by
        rw [← hwn]
        refine ⟨hbel.os, hbel.tape, hbel.output, by simp only [Array.size_setIfInBounds]; exact hbel.size, fun b hb => ?_⟩
        have := hbel.block b hb
        simp only [Array.getElem?_setIfInBounds]
        rw [if_neg (by omega)]
        exact this
      have f3 : w.heap.size < wn.heap.size := (Array.getElem?_eq_some_iff.1 f1).1
      have F : Aside (wn.heap[w.heap.size]? = some (.stringIter s (i + k)) ∧ Below w.heap.size w wn ∧ w.heap.size < wn.heap.size) := ⟨f1, f2, f3⟩
      have Hx : Aside (s.data.toList[i]? = some x) := hxl
      clear f1 f2 f3 hwn hit hbel hxl hlt
      by_cases hx128 : x.toNat < 128
      · have e := decode_ascii s i hi (by rw [hx]; exact hx128)
        rw [hdk, hx] at e
        obtain ⟨rfl, rfl⟩ := Prod.mk.inj e
        have hcon := Lib.contains_iff_indexByte chars2.data.toList x
        have hback : ((x.toNat : Int)).toNat.toUInt8 = x := by simp
        clear e hdk hget hx
        cases hin : chars2.data.toList.contains x
        · rw [hin] at hcon
          have hlt0 : ¬ ((0 : Int) ≤ Lib.indexByte chars2.data.toList x) := of_decide_eq_false hcon.symm
          clear hcon
          go_wp2_with (go_at_fn (ρ.f 152); refine (Any.strings_IndexRune_ascii { L with } _ _ _ (by omega) (by omega)).mono ?_; rintro e w' ⟨rfl, hw⟩; rw [hw, hback])
          go_roundg g
          case measure => omega
          case rel => exact ⟨i + 1, by omega, F.out.1, F.out.2.1, HN.out.succ Hx.out hin⟩
        · rw [hin] at hcon
          have hge : (0 : Int) ≤ Lib.indexByte chars2.data.toList x := of_decide_eq_true hcon.symm
          clear hcon
          go_wp2_with (go_at_fn (ρ.f 152); refine (Any.strings_IndexRune_ascii { L with } _ _ _ (by omega) (by omega)).mono ?_; rintro e w' ⟨rfl, hw⟩; rw [hw, hback])
          go_ret
          exact ⟨by rw [Lib.indexAny_hit HN.out Hx.out hin]; rfl, F.out.2.1⟩
      · have hbg := decode_big s i hi (by rw [hget]; omega)
        rw [hdk] at hbg
        simp only at hbg
        obtain ⟨b1, b2, b3, b4, b5⟩ := hbg
        have HNk : Aside (Lib.NoAny s.data.toList chars2.data.toList (i + k)) := noAny_add HN.out fun j j1 j2 => by
          have hj : j < s.size := by omega
          refine ⟨s[j], Lib.data_getElem? s j hj, ?_⟩
          have h128 := b5 j j1 j2
          have hg2 : s.get! j = s[j] := by
            simp [ByteArray.get!, getElem!_pos, hj]
            rfl
          rw [hg2] at h128
          show ([47, 0] : List UInt8).contains s[j] = false
          have n1 : s[j] ≠ 47 := fun e => by rw [e] at h128; exact absurd h128 (by decide)
          have n2 : s[j] ≠ 0 := fun e => by rw [e] at h128; exact absurd h128 (by decide)
          simp [n1, n2]
        clear b5 hdk hget hx
        have hlt1 : ¬ ((0 : Int) ≤ -1) := by omega
        go_wp2_with (go_at_fn (ρ.f 152); refine (irune_big { L with } _ _ (by omega)).mono ?_; rintro e w2 ⟨rfl, hw2⟩)
        go_roundg (s.size - (i + k))
        case measure => omega
        case rel =>
          have e2 := hw2.block w.heap.size F.out.2.2
          refine ⟨i + k, by omega, by rw [e2]; exact F.out.1, ?_, HNk.out⟩
          have hf := F.out.2.1
          refine ⟨hw2.os.trans hf.os, hw2.tape.trans hf.tape, hw2.output.trans hf.output, Nat.le_trans hf.size hw2.size, fun b hb => ?_⟩
          rw [hw2.block b (Nat.lt_trans hb F.out.2.2)]
          exact hf.block b hb

theorem iany2 (L : Lays.n153 P ρ) (hv116 : ∀ w, (zeroValue (ρ.t 116)).run P w = .ok (.agg (Array.replicate 256 (.bool false))) w) (hi116 : (P.info? (ρ.t 116)).map (·.size) = some 256) (s : ByteArray) (w : World) (hs : s.size < 4294967281) :
    Calls P (ρ.f 153) #[.string s, .string chars2] w fun e w' => e = .returned (.int .i64 (Lib.indexAny s.data.toList chars2.data.toList)) ∧ Below w.heap.size w w' := by
  by_cases h8 : s.size ≤ 8
  · exact iany_short L s w h8
  · refine (Any.strings_IndexAny_long L hv116 hi116 s chars2 w (Nat.le_refl _) (by omega) hs (by decide) fun j b hj => ?_).mono fun e w' ⟨h1, h2⟩ => ⟨h1, ?_⟩
    · have : b ∈ ([47, 0] : List UInt8) := List.mem_of_getElem? hj
      rcases List.mem_cons.1 this with rfl | h
      · decide
      · rcases List.mem_cons.1 h with rfl | h
        · decide
        · cases h
    · rw [h2]
      exact ((Below.refl _ _).alloc (Nat.le_refl _) _).alloc (by simp) _
set_option maxHeartbeats 1000000 in
theorem cany2 (L : Lays.n150 P ρ) (h116 : (P.info? (ρ.t 116)).map (fun i => (i.zero, i.size)) = some (some (.agg (Array.replicate 256 (.bool false))), 256)) (s : ByteArray) (w : World) (hs : s.size < 4294967281) :
    Calls P (ρ.f 150) #[.string s, .string chars2] w fun e w' => e = .returned (.bool (Lib.containsAny s.data.toList chars2.data.toList)) ∧ Below w.heap.size w w' := by
  have c := iany2 { L with } (zero_of_info h116).1 (zero_of_info h116).2 s w hs
  have t3 := L.t3; have a3 := L.a3; have z3 := L.z3; have v3 := L.v3
  have t4 := L.t4; have a4 := L.a4; have z4 := L.z4; have v4 := L.v4
  have t9 := L.t9; have a9 := L.a9; have z9 := L.z9; have v9 := L.v9
  have e153 : ∀ args w, (callFunc (ρ.f 153) args).run P w = .ok (.enter (ρ.f 153) args) w := enters_of L.f153 (by kernel_rfl) rfl
  go_enter L.f150, Body.n150_ntmps ρ
  go_wp2_with (go_at_fn (ρ.f 153); refine c.mono ?_; rintro e w' ⟨rfl, hw⟩)
  go_ret
  exact ⟨rfl, hw⟩
end Go.Proofs.YtmmclabkkigiaaaGreatDoor

namespace Go.Proofs.YtmmclabkkigiaaaGreatDoor
open Go Go.Shelf

def strRen150 : Ren :=
  {
    f := fun x =>
      match x with
      | 150 => 38
      | 153 => 77
      | 152 => 107
      | 226 => 108
      | 227 => 109
      | 228 => 110
      | 137 => 130
      | 119 => 131
      | 224 => 132
      | 225 => 133
      | 217 => 144
      | 266 => 150
      | n => n,
    t := fun x =>
      match x with
      | 9 => 9
      | 4 => 4
      | 3 => 3
      | 5 => 5
      | 21 => 21
      | 117 => 184
      | 116 => 183
      | 0 => 0
      | 46 => 94
      | 124 => 201
      | n => n,
    g := fun x =>
      x }
theorem strLays150 : Lays.n150 Tryz.prog strRen150 :=
  { mixed := rfl, f119 := Tryz.func131.trans (congrArg some (by kernel_rfl)), f137 := Tryz.func130.trans (congrArg some (by kernel_rfl)), f150 := Tryz.func38.trans (congrArg some (by kernel_rfl)), f152 := Tryz.func107.trans (congrArg some (by kernel_rfl)), f153 := Tryz.func77.trans (congrArg some (by kernel_rfl)), f217 := Tryz.func144.trans (congrArg some (by kernel_rfl)), f224 := Tryz.func132.trans (congrArg some (by kernel_rfl)), f225 := Tryz.func133.trans (congrArg some (by kernel_rfl)), f226 := Tryz.func108.trans (congrArg some (by kernel_rfl)), f227 := Tryz.func109.trans (congrArg some (by kernel_rfl)), f228 := Tryz.func110.trans (congrArg some (by kernel_rfl)), f266 := Tryz.func150.trans (congrArg some (by kernel_rfl)), t0 := Tryz.underlying0, a0 := Tryz.isAgg0, z0 := Tryz.sizeOf0, v0 := Tryz.zeroValue0, t3 := Tryz.underlying3, a3 := Tryz.isAgg3, z3 := Tryz.sizeOf3, v3 := Tryz.zeroValue3, t4 := Tryz.underlying4, a4 := Tryz.isAgg4, z4 := Tryz.sizeOf4, v4 := Tryz.zeroValue4, t5 := Tryz.underlying5, a5 := Tryz.isAgg5, z5 := Tryz.sizeOf5, v5 := Tryz.zeroValue5, t9 := Tryz.underlying9, a9 := Tryz.isAgg9, z9 := Tryz.sizeOf9, v9 := Tryz.zeroValue9, t21 := Tryz.underlying21, a21 := Tryz.isAgg21, z21 := Tryz.sizeOf21, v21 := Tryz.zeroValue21, t46 := Tryz.underlying94, a46 := Tryz.isAgg94, z46 := Tryz.sizeOf94, v46 := Tryz.zeroValue94, t116 := Tryz.underlying183, a116 := Tryz.isAgg183, z116 := Tryz.sizeOf183, t117 := Tryz.underlying184, a117 := Tryz.isAgg184, z117 := Tryz.sizeOf184, v117 := Tryz.zeroValue184, t124 := Tryz.underlying201, a124 := Tryz.isAgg201, z124 := Tryz.sizeOf201, v124 := Tryz.zeroValue201 }
end Go.Proofs.YtmmclabkkigiaaaGreatDoor

namespace Go.Proofs.YtmmclabkkigiaaaGreatDoor
open Go Go.RowKit
set_option linter.unusedSimpArgs false
set_option linter.unusedVariables false

def kU8 : Kind Int := ⟨5, 1, fun x => [.int .u8 x], by decide, fun _ => rfl, fun _ => rfl⟩
end Go.Proofs.YtmmclabkkigiaaaGreatDoor

namespace Go.Proofs.YtmmclabkkigiaaaGreatDoor
open Go Go.RowKit

section
variable {M : Bool} {P : Program} {ops : Array Oper} {i : Nat} {s : Fs} {w w' : World} {K : Fs → World → Prop}

theorem ops_appendGrow {B : Nat} {w0 : World} {l0 : List Nat} {R : List Asn} {e : TypeId} {ad ad' : Addr} {n c m c' size bytes : Nat} {olds news : List Value}
    (hs : St B w0 l0 w R) (hq : appQ P ops i s e = some ((some ad, n, c), (some ad', m, c'), size, bytes))
    (hlo : olds.length = n * size) (holds : ∀ j v, olds[j]? = some v → w.cell? (ad.add j) = some v) (hl : news.length = m * size) (hnews : ∀ j v, news[j]? = some v → w.cell? (ad'.add j) = some v)
    (hg : c < n + m) (h63 : n + m ≤ maxLen) (hbytes : (n + m) * bytes ≤ 140737488355328)
    (hk : ∀ a'' c'' w', St B w0 l0 w' (rowA e size (.slice a'' (n + m) c'') (n + m) (olds ++ news) :: R) → OpsAt M P ops (i + 1) (putS s (dstOf ops i) (.slice a'' (n + m) c'')) w' K) : OpsAt M P ops i s w K := by
  unfold appQ at hq
  split at hq
  · rename_i o ho
    split at hq
    · rename_i x y t t' hop
      split at hq
      · rename_i e' f a1 n1 c1 a2 n2 c2 hu hi hx hy
        split at hq
        · rename_i z hz1 hz2 hz
          split at hq
          · rename_i hz3 hz4
            simp only [Option.some.injEq, Prod.mk.injEq] at hq
            obtain ⟨⟨rfl, rfl, rfl⟩, ⟨rfl, rfl, rfl⟩, rfl, rfl⟩ := hq
            obtain rfl := of_decide_eq_true hz1
            obtain rfl := of_decide_eq_true hz2
            have hzs := of_decide_eq_true hz3
            have hB := hs.size
            have hr := run_append_grow (P := P) w t o.type e' f z hu hi hz ad n1 c1 olds hlo holds ad' n2 c2 news hl hnews hg (by simp only [maxLen] at h63; omega) (growslice_fits (by omega) hbytes)
            have hge := grownCap_ge w (n1 + n2) c1 e'
            have hcm : grownCap w (n1 + n2) c1 e' ≤ maxLen := grownCap_le_maxLen w (n1 + n2) c1 e' h63
            have hlen : (olds ++ news).length = (n1 + n2) * f.size := by rw [List.length_append, hlo, hl, Nat.add_mul]
            refine ops_runs ho (v := .slice (some ⟨w.heap.size, 0, none⟩) (n1 + n2) (grownCap w (n1 + n2) c1 e')) (w' := w.drew.alloc (.cells (olds.toArray ++ news.toArray ++ Builtin.zeroCells z.cells (grownCap w (n1 + n2) c1 e' - (n1 + n2))) e')) ?_ (hk _ _ _ ?_)
            · simp only [execOp, hop, resolve, invoke, builtin, Sem.run_bind, Sem.run_pure, Result.andThen_ok, List.map_toArray, List.map_cons, List.map_nil, hx, hy, hr]
            · have hsd : St B w0 l0 w.drew R := hs.drew
              refine St.step0 (post := [rowA e' f.size (.slice (some ⟨w.heap.size, 0, none⟩) (n1 + n2) (grownCap w (n1 + n2) c1 e')) (n1 + n2) (olds ++ news)]) hsd
                ⟨[w.heap.size], ⟨[w.heap.size], [], ⟨⟨hlen, .inr ⟨w.heap.size, _, _, rfl, hB, heap_alloc_new w.drew _, hge, hcm, ?_, ?_⟩⟩, rfl⟩, fun b => by simp, fun b _ => by simp, by simp⟩, ?_⟩
              · simp only [Array.size_append, List.size_toArray, size_zeroCells, hzs, hlo, hl, ← Nat.add_mul]
                congr 1
                omega
              · simp only [Array.toList_append, List.append_assoc]
                rw [← List.append_assoc, ← hlen]
                exact List.take_left
              · refine ⟨rfl, rfl, rfl, by simp, fun b hb _ => Below.heap_alloc _ _ _ hb, fun b hb => .inr ?_⟩
                simp only [List.mem_singleton] at hb
                subst hb
                exact Nat.le_refl _
          · cases hq
        · cases hq
      · cases hq
    · cases hq
  · cases hq

end
end Go.Proofs.YtmmclabkkigiaaaGreatDoor

namespace Go.Proofs.YtmmclabkkigiaaaGreatDoor
open Go Go.RowKit

theorem St.oldCellsB {B : Nat} {w0 w : World} {l0 : List Nat} {H : List Asn} {ad : Addr} {cs : List Value} (hs : St B w0 l0 w H) (hG : ad.block < B) (h : CellsAt (some ad) cs w0) : CellsAt (some ad) cs w := by
  obtain ⟨hB, hlow, l, _, hu⟩ := hs
  intro j v hj
  have hc := h j v hj
  have hb : (ad.add j).block = ad.block := by unfold Addr.add; split <;> rfl
  have he : w.heap[(ad.add j).block]? = w0.heap[(ad.add j).block]? := by
    rw [hb]
    exact hu.block _ (Nat.lt_of_lt_of_le hG hB) fun hm => absurd (hlow _ hm).1 (by omega)
  rw [World.cell?_of_block (w := w0) he]
  exact hc
theorem lt_of_cells {w : World} {ad : Addr} {v : Value} {cs : List Value} (h : CellsAt (some ad) cs w) (h0 : cs[0]? = some v) : ad.block < w.heap.size := by
  have hc := h 0 v h0
  have hb : (ad.add 0).block = ad.block := by unfold Addr.add; split <;> rfl
  rw [← hb]
  exact World.block_lt_of_cell? w _ hc

section
variable {α : Type} (Kd : Kind α)
end

section
variable {M : Bool} {P : Program} {ops : Array Oper} {i : Nat} {s : Fs} {w w' : World} {K : Fs → World → Prop}

theorem runs_suffix {a : Option Addr} {n c size : Nat} {z : Int} (k : Nat) (hz : z = (k : Int)) (h1 : k ≤ n) (h2 : n ≤ c) (h3 : k < c) (ha : ∃ ad, a = some ad) (hq : sliceQ P ops i s = some ((a, n, c), some z, none, size)) : RunsTo P ops i s w (.slice (some (adr a (k * size))) (n - k) (c - k)) w := by
  subst hz
  obtain ⟨ad, rfl⟩ := ha
  have h := runs_slice (P := P) (ops := ops) (i := i) (s := s) (w := w) (size := size) (a := some ad) (n := n) (c := c) (lo := some (k : Int)) (hi := none) k n (.inl rfl) (.inr ⟨rfl, rfl⟩) h1 h2 hq
  rw [if_neg (by omega)] at h
  exact h
end
end Go.Proofs.YtmmclabkkigiaaaGreatDoor

namespace Go.Proofs.YtmmclabkkigiaaaGreatDoor
open Go Go.RowKit
set_option linter.unusedVariables false
section
variable {M : Bool} {P : Program} {ops : Array Oper} {i : Nat} {s : Fs} {w w' : World} {K : Fs → World → Prop}
theorem resD_three {P : Program} {s : Fs} {w : World} {fn : Func} {r q p : ResultVar} {v u z : Value} (hr : fn.results = #[r, q, p]) (h : ResAt P s w r v) (h' : ResAt P s w q u) (h'' : ResAt P s w p z) : (resD fn s).run P w = .ok (.tuple #[v, u, z]) w := by
  have h1 := h.run
  have h2 := h'.run
  have h3 := h''.run
  unfold resD
  rw [hr]
  simp [Sem.run_bind, h1, h2, h3]

theorem kU8_cells (xs : List Int) : kU8.cells xs = xs.map (Value.int .u8) := by
  induction xs with
  | nil => rfl
  | cons x xs ih => rw [Kind.cells_cons, ih]; rfl
def strConvQ (P : Program) (ops : Array Oper) (i : Nat) (s : Fs) : Option (Option Addr × Nat × Nat) :=
  match opQ ops i s with
  | some o => match o.op with
    | .convert src dst x => match P.underlying src, P.underlying dst, evS s x with
      | some (.slice e), some .string, .slice a n c => match P.underlying e with
        | some (.int .u8) => some (a, n, c)
        | _ => none
      | _, _, _ => none
    | _ => none
  | none => none
theorem runs_bytesStr {a : Option Addr} {n c : Nat} {xs : List Int} (hc : CellsAt a (kU8.cells xs) w) (hn : n = xs.length) (hq : strConvQ P ops i s = some (a, n, c)) : RunsTo P ops i s w (.string (strOfNums xs)) w := by
  subst hn
  unfold strConvQ at hq
  split at hq
  · rename_i o ho
    split at hq
    · rename_i src dst x hop
      refine ⟨_, ho, ?_⟩
      split at hq
      · rename_i e a' n' c' hsrc hdst hx
        split at hq
        · rename_i he
          simp only [Option.some.injEq, Prod.mk.injEq] at hq
          obtain ⟨rfl, rfl, rfl⟩ := hq
          have hr : (convert src dst (.slice a' xs.length c')).run P w = .ok (.string (strOfNums xs)) w := by
            cases a' with
            | none =>
              have h0 := cells_none kU8 hc
              subst h0
              exact run_convert_bytes_nil w src e hsrc he _ _ dst hdst
            | some ad =>
              have hl : (loadCells ad xs.length).run P w = .ok (xs.map (Value.int .u8)).toArray w := by
                have h := run_loadCells_list (P := P) w ad (xs.map (Value.int .u8)) (fun j v hj => hc j v (by rw [kU8_cells]; exact hj))
                simpa using h
              rw [run_convert_bytes_string w src dst e _ _ _ hsrc he hdst, run_bytesToString w _ _ _ xs hl, foldl_push_bytes]
              simp [strOfNums, ByteArray.empty, ByteArray.emptyWithCapacity]
              rfl
          simp only [execOp, hop, hx, Sem.run_bind, Result.andThen_ok, hr, Sem.run_pure]
        · cases hq
      · cases hq
    · cases hq
  · cases hq
end
end Go.Proofs.YtmmclabkkigiaaaGreatDoor

namespace Go.Proofs.YtmmclabkkigiaaaGreatDoor
open Go Go.RowKit
set_option linter.unusedVariables false
@[simp] theorem beq_bytes (a b : ByteArray) : ((a == b) = true) ↔ a = b := by
  constructor
  · intro h
    cases a with | mk x => cases b with | mk y =>
    have : (x == y) = true := h
    rw [beq_iff_eq.1 this]
  · rintro rfl
    cases a with | mk x => exact (show (x == x) = true from beq_self_eq_true x)
@[simp] theorem beq_bytes_false (a b : ByteArray) : ((a == b) = false) ↔ ¬ (a = b) := by
  rw [← beq_bytes, Bool.not_eq_true]
section
variable {P : Program} {ops : Array Oper} {i : Nat} {s : Fs} {w : World}
def sbyte (s : ByteArray) (k : Int) : Int := (((s[k.toNat]?).getD 0).toNat : Int)
def strIdxQ (P : Program) (ops : Array Oper) (i : Nat) (s : Fs) : Option (ByteArray × Int) :=
  match opQ ops i s with
  | some o => match o.op with
    | .index t x y => match P.underlying t, evS s x, evS s y with
      | some .string, .string b, .int _ k => some (b, k)
      | _, _, _ => none
    | _ => none
  | none => none
theorem runs_strIdx {b : ByteArray} {k : Int} (hk : 0 ≤ k ∧ k < (b.size : Int)) (hq : strIdxQ P ops i s = some (b, k)) : RunsTo P ops i s w (.int .u8 (sbyte b k)) w := by
  unfold strIdxQ at hq
  split at hq
  · rename_i o ho
    split at hq
    · rename_i t x y hop
      refine ⟨_, ho, ?_⟩
      split at hq
      · rename_i b' kk k' hu hx hy
        simp only [Option.some.injEq, Prod.mk.injEq] at hq
        obtain ⟨rfl, rfl⟩ := hq
        have hun := run_underlying (P := P) hu w
        have hn : k'.toNat < b'.size := by omega
        have hg : b'[k'.toNat]? = some b'[k'.toNat] := getElem?_pos b' _ hn
        simp only [execOp, hop, hx, hy, Instr.index, asIntOf, Sem.run_bind, Sem.run_pure, Result.andThen_ok, hun, if_pos hk.1, hg, sbyte, Option.getD_some]
      · cases hq
    · cases hq
  · cases hq
end
section
variable {α : Type} (K : Kind α) {M : Bool} {P : Program} {ops : Array Oper} {i : Nat} {s : Fs} {w : World} {Q : Fs → World → Prop} {B : Nat} {w0 : World} {l0 : List Nat} {H R : List Asn}
end
end Go.Proofs.YtmmclabkkigiaaaGreatDoor

namespace Go.Proofs.YtmmclabkkigiaaaGreatDoor
open Go Go.RowKit
set_option linter.unusedVariables false

def strNums (s : ByteArray) : List Int := s.data.toList.map fun b => (b.toNat : Int)
theorem strNums_len (s : ByteArray) : (strNums s).length = s.size := by simp [strNums]
section
variable {M : Bool} {P : Program} {ops : Array Oper} {i : Nat} {s : Fs} {w : World} {K : Fs → World → Prop}
def strBytesQ (P : Program) (ops : Array Oper) (i : Nat) (s : Fs) : Option (ByteArray × TypeId) :=
  match opQ ops i s with
  | some o => match o.op with
    | .convert src dst x => match P.underlying src, P.underlying dst, evS s x with
      | some .string, some (.slice e), .string b => match P.underlying e with
        | some (.int .u8) => some (b, e)
        | _ => none
      | _, _, _ => none
    | _ => none
  | none => none
theorem ops_strBytes {B : Nat} {w0 : World} {l0 : List Nat} {R : List Asn} {b : ByteArray} {e : TypeId} (hs : St B w0 l0 w R) (hq : strBytesQ P ops i s = some (b, e))
    (hk : ∀ (n c : Nat) (C : Array Value) (w' : World), b.size ≤ c → (∀ j, j < b.size → C[j]? = some (.int .u8 ((strNums b).getD j 0))) → St B w0 l0 w' (blk n (.cells C e (C.size, C.size + 1)) :: R) →
      OpsAt M P ops (i + 1) (putS s (dstOf ops i) (.slice (some ⟨n, 0, none⟩) b.size c)) w' K) : OpsAt M P ops i s w K := by
  unfold strBytesQ at hq
  split at hq
  · rename_i o ho
    split at hq
    · rename_i src dst x hop
      split at hq
      · rename_i e' b' hsrc hdst hx
        split at hq
        · rename_i he
          simp only [Option.some.injEq, Prod.mk.injEq] at hq
          obtain ⟨rfl, rfl⟩ := hq
          have hr := Lib.run_convert_string_bytes (P := P) w src dst e' b' hsrc hdst he
          have hB := hs.size
          refine ops_runs ho (v := .slice (some ⟨w.heap.size, 0, none⟩) b'.size (grownCap w b'.size 0 e')) (w' := Lib.bytesWorld w e' b') ?_ (hk _ _ (Lib.bytesCells w e' b') _ ?_ ?_ ?_)
          · simp only [execOp, hop, hx, Sem.run_bind, Result.andThen_ok, Sem.run_pure, hr]
          · exact grownCap_ge w b'.size 0 e'
          · intro j hj
            have := Lib.bytesWorld_cell w e' b' j hj
            have hn := Lib.bytesWorld_at_new w e' b'
            simp only [World.cell?, hn] at this
            simpa [strNums, List.getD, hj] using this
          · refine St.step0 (post := [blk w.heap.size (.cells (Lib.bytesCells w e' b') e' ((Lib.bytesCells w e' b').size, (Lib.bytesCells w e' b').size + 1))]) hs ⟨[w.heap.size], ⟨[w.heap.size], [], ⟨hB, Lib.bytesWorld_at_new w e' b', rfl⟩, fun b => by simp, fun b _ => by simp, by simp⟩, ?_⟩
            refine ⟨by simp [Lib.bytesWorld, World.freeze, World.alloc, World.drew, -World.alloc_eq, -World.drew_eq], by simp [Lib.bytesWorld, World.freeze, World.alloc, World.drew, -World.alloc_eq, -World.drew_eq], by simp [Lib.bytesWorld, World.freeze, World.alloc, World.drew, -World.alloc_eq, -World.drew_eq], by rw [Lib.bytesWorld_size]; omega, fun b hb _ => Lib.bytesWorld_at_old w e' b' b hb, fun b hb => .inr ?_⟩
            simp only [List.mem_singleton] at hb
            omega
        · cases hq
      · cases hq
    · cases hq
  · cases hq
end
def partN (n k : Nat) : Nat := if n - 8 * k < 8 then n - 8 * k else 8
theorem part_pos {n k : Nat} (h : 8 * k < n) : 0 < partN n k ∧ partN n k ≤ 8 ∧ 8 * k + partN n k ≤ n ∧ (8 * k + partN n k = n ∨ partN n k = 8) := by
  unfold partN; split <;> omega
end Go.Proofs.YtmmclabkkigiaaaGreatDoor

namespace Go.Proofs.YtmmclabkkigiaaaGreatDoor
open Go Go.RowKit Go.Shelf
set_option linter.unusedVariables false
theorem Spec.ofBelow {P : Program} {f : FuncId} {args : Array Value} {B : Nat} {w : World} {v : Value} (h : Calls P f args w fun e w' => e = .returned v ∧ Below w.heap.size w w') : Spec P f args B w [] (fun u H' => u = v ∧ H' = []) :=
  fun l hB hs => h.mono fun e w' ⟨he, hb⟩ => ⟨v, he, [], [], ⟨rfl, rfl⟩, fun _ h => (by cases h), ⟨hb.os, hb.tape, hb.output, hb.size, fun b h1 _ => hb.block b h1, fun b h => (by cases h)⟩⟩
def badB (s : ByteArray) : Bool := Lib.containsAny s.data.toList [47, 0]
theorem anyB : ∀ l : List UInt8, Lib.containsAny l [47, 0] = l.any fun b => b == 47 || b == 0
  | [] => rfl
  | b :: l => by
    have ih := anyB l
    have hge := Lib.indexAny_ge [47, 0] l
    unfold Lib.containsAny at *
    rw [List.any_cons, ← ih, Lib.indexAny]
    have hc : ([47, 0] : List UInt8).contains b = (b == 47 || b == 0) := by simp only [List.contains_cons, List.contains_nil, Bool.or_false]
    rw [hc]
    cases hb : (b == 47 || b == 0) with
    | true => simp
    | false =>
      rw [if_neg (by decide), Bool.false_or]
      by_cases e : Lib.indexAny l [47, 0] = -1
      · rw [e]; decide
      · rw [if_neg (by simpa using e)]
        exact decide_eq_decide.2 (by omega)
theorem badB_iff {s : ByteArray} : badB s = true ↔ ∃ j, j < s.size ∧ ((strNums s).getD j 0 = 47 ∨ (strNums s).getD j 0 = 0) := by
  unfold badB
  rw [anyB, List.any_eq_true]
  constructor
  · rintro ⟨b, hb, hc⟩
    obtain ⟨j, hj, e⟩ := List.getElem_of_mem hb
    have hj2 : j < s.size := by rw [Array.length_toList] at hj; exact hj
    refine ⟨j, hj2, ?_⟩
    have eg : (strNums s).getD j 0 = (b.toNat : Int) := by
      unfold strNums
      simp only [List.getD, List.getElem?_map, List.getElem?_eq_getElem hj, Option.map_some, Option.getD_some, e]
    rw [eg]
    simp only [Bool.or_eq_true, beq_iff_eq] at hc
    rcases hc with rfl | rfl
    · exact .inl rfl
    · exact .inr rfl
  · rintro ⟨j, hj, hc⟩
    have hj2 : j < s.data.toList.length := by rw [Array.length_toList]; exact hj
    refine ⟨s.data.toList[j], List.getElem_mem hj2, ?_⟩
    have eg : (strNums s).getD j 0 = ((s.data.toList[j]).toNat : Int) := by
      unfold strNums
      simp only [List.getD, List.getElem?_map, List.getElem?_eq_getElem hj2, Option.map_some, Option.getD_some]
    rw [eg] at hc
    simp only [Bool.or_eq_true, beq_iff_eq]
    rcases hc with hc | hc
    · exact .inl (UInt8.toNat_inj.1 (by have : (47 : UInt8).toNat = 47 := rfl; omega))
    · exact .inr (UInt8.toNat_inj.1 (by have : (0 : UInt8).toNat = 0 := rfl; omega))
theorem cany_spec {s : ByteArray} (hs : s.size < 4294967281) (B : Nat) (w : World) : Spec Tryz.prog 38 #[.string s, .string (ByteArray.mk #[47, 0])] B w [] (fun v H' => v = .bool (badB s) ∧ H' = []) :=
  Spec.ofBelow (cany2 strLays150 (by kernel_rfl) s w hs)
end Go.Proofs.YtmmclabkkigiaaaGreatDoor

set_option linter.unusedVariables false
set_option maxRecDepth 20000
set_option maxHeartbeats 1000000
namespace Go.Proofs.YtmmclabkkigiaaaGreatDoor
open Go Go.RowKit
set_option linter.unusedSimpArgs false
set_option linter.unusedVariables false

def emay_M (tx_ : ByteArray) : Option (Bool) :=
 if (tx_.size : Int) ≥ 1 then (if (tx_.size : Int) ≤ 40 then (need (tx_.size < 4294967281) <|
if (badB tx_) = true then (some false) else (if (tx_.toList == (ByteArray.mk #[46]).toList) = true then (some false) else (some (!(tx_.toList == (ByteArray.mk #[46, 46]).toList))))) else (some false)) else (some false)

theorem emay_walk {tx_ : ByteArray}  {r : Bool} (B : Nat) (w : World) (hm : emay_M tx_ = some r) : Spec Tryz.prog 9 #[(.string tx_)] B w [] (fun v H' => v = .bool r ∧ H' = []) := by
 refine spec_Q Tryz.func9 rfl fun hs => ?_
 unfold emay_M at hm
 refine W.sr fun K1 hK1 => ?_
 refine zE 1 (hK1 _ _ ?_)
 refine W.sr fun K2 hK2 => ?_
 refine zR 4 ?_
 rcases Bool.eq_false_or_eq_true (decide ((tx_.size : Int) ≥ 1)) with h3 | h3
 ·
  obtain ⟨h3p, hm⟩ := iY hm h3
  refine zS 6 h3 ?_
  refine zS 5 h3 ?_
  refine zR 5 ?_
  rcases Bool.eq_false_or_eq_true (decide ((tx_.size : Int) ≤ 40)) with h4 | h4
  ·
   obtain ⟨h4p, hm⟩ := iY hm h4
   refine zS 11 h4 ?_
   refine zS 9 h4 ?_
   refine zS 10 h4 ?_
   refine zR 1 ?_
   obtain ⟨h5, hm⟩ := need_some hm
   refine zC00 hs (cany_spec (s := tx_) (hs := h5) B _) fun w6 hs8 => ?_
   refine zR 3 ?_
   rcases Bool.eq_false_or_eq_true (!(badB tx_)) with h9 | h9
   rotate_left
   ·
    have h9p : (badB tx_) = true := (bnot_false h9)
    replace hm := ite_yes hm h9p
    refine zS 16 h9 ?_
    refine zS 14 h9 ?_
    refine zS 15 h9 ?_
    refine zE 8 (hK2 _ _ ?_)
    refine W.ret ?_
    obtain rfl := some_inj hm
    refine ret_of (.bool false) (by kernel_rfl) ⟨_, ⟨rfl, rfl⟩, hs8⟩
   ·
    have h9p : ¬ ((badB tx_) = true) := ne_true_of_eq_false (bnot_true h9)
    replace hm := ite_no hm h9p
    refine zS 16 h9 ?_
    refine zS 14 h9 ?_
    refine zS 15 h9 ?_
    refine zR 4 ?_
    rcases Bool.eq_false_or_eq_true (!(tx_.toList == (ByteArray.mk #[46]).toList)) with h10 | h10
    rotate_left
    ·
     have h10p : (tx_.toList == (ByteArray.mk #[46]).toList) = true := (bnot_false h10)
     replace hm := ite_yes hm h10p
     refine zS 20 h10 ?_
     refine zS 18 h10 ?_
     refine zS 19 h10 ?_
     refine zE 4 (hK2 _ _ ?_)
     refine W.ret ?_
     obtain rfl := some_inj hm
     refine ret_of (.bool false) (by kernel_rfl) ⟨_, ⟨rfl, rfl⟩, hs8⟩
    ·
     have h10p : ¬ ((tx_.toList == (ByteArray.mk #[46]).toList) = true) := ne_true_of_eq_false (bnot_true h10)
     replace hm := ite_no hm h10p
     refine zS 20 h10 ?_
     refine zS 18 h10 ?_
     refine zS 19 h10 ?_
     refine zE 4 (hK2 _ _ ?_)
     refine W.ret ?_
     obtain rfl := some_inj hm
     refine ret_of (.bool (!(tx_.toList == (ByteArray.mk #[46, 46]).toList))) (by kernel_rfl) ⟨_, ⟨rfl, rfl⟩, hs8⟩
  ·
   obtain ⟨h4p, hm⟩ := iN hm h4
   refine zS 11 h4 ?_
   refine zS 9 h4 ?_
   refine zS 10 h4 ?_
   refine zE 13 (hK2 _ _ ?_)
   refine W.ret ?_
   obtain rfl := some_inj hm
   refine ret_of (.bool false) (by kernel_rfl) ⟨_, ⟨rfl, rfl⟩, hs⟩
 ·
  obtain ⟨h3p, hm⟩ := iN hm h3
  refine zS 6 h3 ?_
  refine zS 5 h3 ?_
  refine zE 18 (hK2 _ _ ?_)
  refine W.ret ?_
  obtain rfl := some_inj hm
  refine ret_of (.bool false) (by kernel_rfl) ⟨_, ⟨rfl, rfl⟩, hs⟩

end Go.Proofs.YtmmclabkkigiaaaGreatDoor

set_option linter.unusedVariables false
set_option maxRecDepth 20000
namespace Go.Proofs.YtmmclabkkigiaaaGreatDoor
open Go Go.RowKit
set_option linter.unusedSimpArgs false
set_option linter.unusedVariables false

theorem sumnew_spec  (B : Nat) (w : World) : Spec Tryz.prog 39 #[] B w [] (fun v H' => ∃ b, v = ptr b ∧ H' = [blk b (.cells [(.int .u64 14695981039346656037)].toArray 147 (0, 0))]) := by
 refine spec_Q Tryz.func39 rfl fun hs => ?_
 refine W.sr fun K1 hK1 => ?_
 refine zE 1 (hK1 _ _ ?_)
 refine W.sr fun K2 hK2 => ?_
 refine zR 1 ?_
 refine zN [(.int .u64 14695981039346656037)] 147 hs fun b5 w3 hs4 => ?_
 refine zE 1 (hK2 _ _ ?_)
 refine W.ret ?_
 refine ret_of (.pointer (some ⟨b5, 0, none⟩)) (by kernel_rfl) ⟨_, ⟨b5, rfl, rfl⟩, hs4⟩

def sumadd_M (s_ : Int) (w_ : Int) : Option (Int) :=
 (some (bits .xor .u64 s_ w_)).bind fun r2 =>
some ((r2 * 1099511628211) % 18446744073709551616)

theorem sumadd_walk {s_ : Int} {w_ : Int} {sb : Nat} {r : Int} (B : Nat) (w : World) (hm : sumadd_M s_ w_ = some r) : Spec Tryz.prog 40 #[(.pointer (some ⟨sb, 0, none⟩)), (.int .u64 w_)] B w [blk sb (.cells [(.int .u64 s_)].toArray 147 (0, 0))] (fun v H' => v = .tuple #[] ∧ H' = [blk sb (.cells [(.int .u64 r)].toArray 147 (0, 0))]) := by
 refine spec_W Tryz.func40 rfl fun l0 hs => ?_
 unfold sumadd_M at hm
 refine W.sr fun K1 hK1 => ?_
 refine zE 2 (hK1 _ _ ?_)
 refine W.cond_true true (by kernel_rfl) rfl ?_
 refine W.region ?_
 refine zR 4 ?_
 refine zL ⟨sb, 0, none⟩ (.int .u64 s_) (hs.cellAt 0 rfl rfl) ?_
 refine zR 2 ?_
 obtain ⟨r2, h3, hm⟩ := bind_some hm
 replace h3 := some_inj h3
 refine ops_set 12 (v := .int .u64 r2) (Eq.trans (by kernel_rfl) (congrArg (Value.int .u64) h3)) ?_
 refine ops_val (v := .int .u64 (IntKind.u64.wrap (r2 * 1099511628211))) (v' := .int .u64 ((r2 * 1099511628211) % 18446744073709551616)) (by kernel_rfl) (congrArg (Value.int .u64) (wrap_u64_mod _)) ?_
 refine zR 2 ?_
 refine ops_store (off := 0) (cs := [(.int .u64 s_)]) (vs := [(.int .u64 ((r2 * 1099511628211) % 18446744073709551616))]) hs (by kernel_rfl) (by simp) rfl (fun w4 hs5 => ?_)
 have hs6 : St B w l0 w4 [blk sb (.cells [(.int .u64 ((r2 * 1099511628211) % 18446744073709551616))].toArray 147 (0, 0))] := hs5
 refine zD ?_
 obtain rfl := some_inj hm
 refine ret_ofN (.tuple #[]) (by kernel_rfl) ⟨_, ⟨rfl, rfl⟩, hs6⟩

def sumnow_M (s_ : Int) : Option (Int) :=
 some s_

theorem sumnow_walk {s_ : Int} {sb : Nat} {r : Int} (B : Nat) (w : World) (hm : sumnow_M s_ = some r) : Spec Tryz.prog 42 #[(.pointer (some ⟨sb, 0, none⟩))] B w [blk sb (.cells [(.int .u64 s_)].toArray 147 (0, 0))] (fun v H' => v = .int .u64 r ∧ H' = [blk sb (.cells [(.int .u64 s_)].toArray 147 (0, 0))]) := by
 refine spec_W Tryz.func42 rfl fun l0 hs => ?_
 unfold sumnow_M at hm
 refine W.sr fun K1 hK1 => ?_
 refine zE 1 (hK1 _ _ ?_)
 refine W.seq fun K2 hK2 => ?_
 refine W.sr fun K3 hK3 => ?_
 refine zE 2 (hK3 _ _ ?_)
 refine W.cond_false false (by kernel_rfl) rfl ?_
 refine W.skip ?_
 refine hK2 _ _ ?_
 refine W.sr fun K4 hK4 => ?_
 refine zR 3 ?_
 refine zL ⟨sb, 0, none⟩ (.int .u64 s_) (hs.cellAt 0 rfl rfl) ?_
 refine zE 1 (hK4 _ _ ?_)
 refine W.ret ?_
 obtain rfl := some_inj hm
 refine ret_of (.int .u64 s_) (by kernel_rfl) ⟨_, ⟨rfl, rfl⟩, hs⟩

end Go.Proofs.YtmmclabkkigiaaaGreatDoor

namespace Go.Proofs.YtmmclabkkigiaaaGreatDoor
open Go Go.RowKit

theorem W.roundsA {G GZ : Type} {P : Program} {s : Fs} {w : World} {Q : Exit → Fs → World → Prop} {B : Nat} {w0 : World} {l0 : List Nat} {g : Operand} {ps : Array Tmp} {assign body : Code} {gf : Nat} {lb : Array Value}
    (n : Nat) (F : Nat → G → Prop) (Hs : G → List Asn) (c : Code) (FZ : GZ → Prop) (HsZ : GZ → List Asn) (own : List Asn) (enc : Nat → Array Value) (s0 : Nat → Nat → Fs) (x0 : G) (h0 : F 0 x0)
    (hs : St B w0 l0 w (own ++ Hs x0)) (hr : s.r = none) (hg : evS s g = .func (.func gf) #[] lb) (hf : ∀ args w, (callFunc gf args).run P w = .ok (.enter gf args) w) (hsz : ∀ k, (enc k).size = ps.size)
    (hrel : ∀ (a : Array Value) (k l : Nat), a.size = s.n → (∀ i, a.getD i undef = s.f i) → Rel ⟨(ps.zip (enc k)).foldl (fun tmps (t, a) => tmps.setIfInBounds t a) a, []⟩ (s0 k l) ∧ (s0 k l).r = some l)
    (ar : Nat → Array Value) (har : ∀ l, #[.func (.yield l) #[] #[]] ++ lb = ar l)
    (iter : ∀ (l : Nat) (w1 : World) (Y : Nat → Asn) (Z : Asn), (∀ k, k < n → ∀ w', YSpec P l (enc k) B w' [Y k] (fun v H' => (v = .bool true ∧ H' = [Y (k + 1)]) ∨ (v = .bool false ∧ H' = [Z]))) →
      Spec P gf (ar l) B w1 (own ++ [Y 0]) (fun v H' => v = .tuple #[] ∧ (H' = own ++ [Y n] ∨ H' = own ++ [Z])))
    (round : ∀ (k : Nat), k < n → ∀ (rc : Loop) (l : Nat) (w' : World) (x : G), F k x → ∀ lf, St B w' lf w' (blk l (.loop rc) :: Hs x) → ∀ K : Fs → World → Prop, (∀ s' w1, St B w' lf w1 (blk l (.loop rc) :: Hs x) →
      (∀ w2, St B w' lf w2 (blk l (.loop { rc with state := .busy }) :: Hs x) → W P body s' w2 (rq B w' lf l rc (F (k + 1)) Hs c FZ HsZ)) → K s' w1) → W P assign (s0 k l) w' (seqQ K (fun _ _ _ => False)))
    (done : ∀ D w3 x, F n x → St B w0 l0 w3 (blk D (.deferred (some [])) :: (own ++ Hs x)) → Q .normal (s.mark D) w3)
    (jump : ∀ D w3 z, FZ z → St B w0 l0 w3 (blk D (.deferred (some [])) :: (own ++ HsZ z)) → W P c (s.mark D) w3 Q) : W P (.rangeFunc g ps assign body) s w Q :=
  W.rounds n F Hs c FZ HsZ own enc s0 x0 h0 hs hr hg hf hsz hrel (fun l w1 Y Z hy => by rw [har l]; exact iter l w1 Y Z hy) round done jump
end Go.Proofs.YtmmclabkkigiaaaGreatDoor

namespace Go.Proofs.YtmmclabkkigiaaaGreatDoor
open Go Go.RowKit

section
variable {M : Bool} {P : Program} {ops : Array Oper} {i : Nat} {s : Fs} {w w' : World} {K : Fs → World → Prop}

def mkQ (P : Program) (ops : Array Oper) (i : Nat) (s : Fs) : Option (TypeId × Int × Int × Nat × Nat × List Value) :=
  match opQ ops i s with
  | some o => match o.op with
    | .makeSlice t x y => match P.underlying t, evS s x, evS s y with
      | some (.slice e), .int _ l, .int _ c => match P.info? e with
        | some f => match f.zero with
          | some z => some (e, l, c, f.size, f.bytes, z.cells.toList)
          | none => none
        | none => none
      | _, _, _ => none
    | _ => none
  | none => none

theorem flatMap_replicate {α : Type} (n : Nat) (d : α) (f : α → List Value) : (List.replicate n d).flatMap f = (List.replicate n (f d)).flatten := by
  induction n with
  | zero => rfl
  | succ n ih => simp [List.replicate_succ, ih]

theorem made_list (zs : Array Value) (hz : 0 < zs.size) : ∀ n : Nat, (madeCells zs (n * zs.size)).toList = (List.replicate n zs.toList).flatten := by
  intro n
  refine List.ext_getElem ?_ fun j h1 h2 => ?_
  · simp [madeCells]
  · have hj : j < n * zs.size := by simpa [madeCells] using h1
    have hi : j / zs.size < n := Nat.div_lt_of_lt_mul (by rw [Nat.mul_comm]; exact hj)
    have hm : j % zs.size < zs.size := Nat.mod_lt _ hz
    simp only [madeCells, Array.getElem_toList, Array.getElem_map, Array.getElem_range]
    clear h1
    induction n generalizing j with
    | zero => simp at hj
    | succ n ih =>
      simp only [List.replicate_succ, List.flatten_cons]
      by_cases hlt : j < zs.size
      · rw [List.getElem_append_left (by simpa using hlt), Nat.mod_eq_of_lt hlt]
        simp [hlt]
      · rw [List.getElem_append_right (by simpa using hlt)]
        have e1 : (j - zs.toList.length) % zs.size = j % zs.size := by
          rw [Array.length_toList, ← Nat.mod_eq_sub_mod (by omega)]
        have hj' : j - zs.toList.length < n * zs.size := by rw [Array.length_toList]; rw [Nat.add_mul] at hj; omega
        have h := ih (j - zs.toList.length) (by simpa using hj') hj' (Nat.div_lt_of_lt_mul (by rw [Nat.mul_comm]; exact hj')) (Nat.mod_lt _ hz)
        rw [← h, e1]

theorem ops_makeSlice {α : Type} (Kd : Kind α) (d : α) {B : Nat} {w0 : World} {l0 : List Nat} {R : List Asn} {z : Int} (n : Nat) {bytes : Nat} (hz : z = (n : Int)) (hs : St B w0 l0 w R)
    (hq : mkQ P ops i s = some (Kd.e, z, z, Kd.size, bytes, Kd.elem d)) (hb : bytes * n ≤ 281474976710656) (hm : n ≤ maxLen)
    (hk : ∀ b w', St B w0 l0 w' (Kd.row (some ⟨b, 0, none⟩) n (List.replicate n d) :: R) → OpsAt M P ops (i + 1) (putS s (dstOf ops i) (.slice (some ⟨b, 0, none⟩) n n)) w' K) : OpsAt M P ops i s w K := by
  subst hz
  unfold mkQ at hq
  split at hq
  · rename_i o ho
    split at hq
    · rename_i t x y hop
      split at hq
      · rename_i e q1 l q2 c hu hx hy
        split at hq
        · rename_i f hi
          split at hq
          · rename_i zz hzz
            simp only [Option.some.injEq, Prod.mk.injEq] at hq
            obtain ⟨rfl, rfl, rfl, hsz, rfl, hcs⟩ := hq
            have hB := hs.size
            obtain ⟨w', hr, hown, hgr⟩ := run_make_full (P := P) w B t Kd.e f zz Kd.size hu hi hzz hsz q1 q2 n hb hm hB
            have hzs : zz.cells.size = Kd.size := by rw [← Array.length_toList, hcs, Kd.elen]
            have hlist : (madeCells zz.cells (n * Kd.size)).toList = Kd.cells (List.replicate n d) := by
              rw [← hzs, made_list _ (by rw [hzs]; exact Kd.pos), hcs]
              exact (flatMap_replicate n d Kd.elem).symm
            rw [hlist] at hown
            refine ops_runs ho (v := .slice (some ⟨w.heap.size, 0, none⟩) n n) (w' := w') ?_ (hk _ _ ?_)
            · simp only [execOp, hop, hx, hy, Sem.run_bind, Result.andThen_ok, Sem.run_pure, hr]
            · refine St.step0 (post := [Kd.row (some ⟨w.heap.size, 0, none⟩) n (List.replicate n d)]) hs ⟨[w.heap.size], ⟨[w.heap.size], [], ⟨?_, rfl⟩, fun b => by simp, fun b _ => by simp, by simp⟩, ?_⟩
              · simpa using hown
              · refine ⟨hgr.os, hgr.tape, hgr.output, hgr.size, fun b hb _ => hgr.block b hb (by simp), fun b hb => .inr ?_⟩
                simp only [List.mem_singleton] at hb
                subst hb
                exact Nat.le_refl _
          · cases hq
        · cases hq
      · cases hq
    · cases hq
  · cases hq
end
end Go.Proofs.YtmmclabkkigiaaaGreatDoor

namespace Go.Proofs.YtmmclabkkigiaaaGreatDoor
open Go Go.RowKit

section
variable {M : Bool} {P : Program} {ops : Array Oper} {T : List (Nat × Nat)} {S : World → Prop} {s : Fs} {w : World} {K : Fs → World → Prop}

theorem any_step2 (i j : Nat) {fuel : Nat} {L : Nat} (hr : readyM T L = [i, j]) (hi' : (opQ ops i s).isSome = true) (hj' : (opQ ops j s).isSome = true)
    (hi : OpsAt false P (alone ops i) 0 s w (fun s' w' => S w' ∧ AnyAt P ops T S fuel (Nat.lor L (Nat.shiftLeft 1 i)) s' w' K))
    (hj : OpsAt false P (alone ops j) 0 s w (fun s' w' => S w' ∧ AnyAt P ops T S fuel (Nat.lor L (Nat.shiftLeft 1 j)) s' w' K)) : AnyAt P ops T S (fuel + 1) L s w K := by
  refine any_steps [i, j] hr (by simp) ?_ ?_
  · intro k hk
    simp only [List.mem_cons, List.not_mem_nil, or_false] at hk
    rcases hk with rfl | rfl
    · exact hi'
    · exact hj'
  · intro k hk
    simp only [List.mem_cons, List.not_mem_nil, or_false] at hk
    rcases hk with rfl | rfl
    · exact hi
    · exact hj
end
end Go.Proofs.YtmmclabkkigiaaaGreatDoor

namespace Go.Proofs.YtmmclabkkigiaaaGreatDoor
open Go Go.RowKit

def May (gw gi gb : Int) : Prop := (1 ≤ gw ∧ gw ≤ 4) ∧ (2 ≤ gi ∧ gi ≤ 64) ∧ (2 ≤ gb ∧ gb ≤ 512)
instance (gw gi gb : Int) : Decidable (May gw gi gb) := by unfold May; exact inferInstance
theorem may_out {gw gi gb : Int} (h : May gw gi gb) : (1 ≤ gw ∧ gw ≤ 4) ∧ (2 ≤ gi ∧ gi ≤ 64) ∧ (2 ≤ gb ∧ gb ≤ 512) := h
def placeOf (k : Nat) (gw gi gb n : Int) : Int :=
  if May gw gi gb then
    match k with
    | 2 => if 0 ≤ n ∧ n < 4 then 8 + 64 * n else -1
    | 6 => if 0 ≤ n ∧ n < 1 then 264 + 208 * gw + 8 * n else -1
    | 7 => if 0 ≤ n ∧ n < 1 then 272 + 208 * gw + 8 * n else -1
    | 8 => if 0 ≤ n ∧ n < gi then 280 + 208 * gw + 16 * n else -1
    | 9 => if 0 ≤ n ∧ n < gb then 280 + 208 * gw + 16 * gi + 8 * n else -1
    | _ => -1
  else -1
def wordsOf (gw gi gb : Int) : Int := if May gw gi gb then 280 + 208 * gw + 16 * gi + 8 * gb else 0
def fmtW (gw gi gb : Int) : List Int :=
  if May gw gi gb then
    ((((((((List.replicate (wordsOf gw gi gb).toNat 0).set 0 32762617960297063).set 1 gw).set 2 gi).set 3 gb).set (placeOf 6 gw gi gb 0).toNat 3).set (placeOf 7 gw gi gb 0).toNat 1).set (placeOf 8 gw gi gb 1).toNat 2).set (placeOf 8 gw gi gb 1 + 1).toNat 1
  else []
theorem fmtW_len (gw gi gb : Int) : (fmtW gw gi gb).length = (wordsOf gw gi gb).toNat := by
  unfold fmtW
  split
  · simp only [List.length_set, List.length_replicate]
  · rename_i h; simp [wordsOf, h]
theorem words_may {gw gi gb : Int} (h : May gw gi gb) : wordsOf gw gi gb = 280 + 208 * gw + 16 * gi + 8 * gb := by simp only [wordsOf, if_pos h]
theorem place6 {gw gi gb : Int} (h : May gw gi gb) : placeOf 6 gw gi gb 0 = 264 + 208 * gw := by simp [placeOf, h]
theorem place7 {gw gi gb : Int} (h : May gw gi gb) : placeOf 7 gw gi gb 0 = 272 + 208 * gw := by simp [placeOf, h]
theorem place8_in {gw gi gb n : Int} (h : May gw gi gb) (hn : 0 ≤ n ∧ n < gi) : placeOf 8 gw gi gb n = 280 + 208 * gw + 16 * n := by simp [placeOf, h, hn]
theorem place8_cases (gw gi gb n : Int) : placeOf 8 gw gi gb n = -1 ∧ ¬ (May gw gi gb ∧ 0 ≤ n ∧ n < gi) ∨ (May gw gi gb ∧ (0 ≤ n ∧ n < gi) ∧ placeOf 8 gw gi gb n = 280 + 208 * gw + 16 * n) := by
  by_cases h : May gw gi gb
  · by_cases hn : 0 ≤ n ∧ n < gi
    · exact .inr ⟨h, hn, place8_in h hn⟩
    · exact .inl ⟨by simp [placeOf, h, hn], fun q => hn q.2⟩
  · exact .inl ⟨by simp [placeOf, h], fun q => h q.1⟩
def mx (x y : Int) : Int := if y > x then y else x
def mn (x y : Int) : Int := if y < x then y else x
theorem mx_lt {x y z : Int} : mx x y < z ↔ x < z ∧ y < z := by unfold mx; split <;> omega

theorem le_mx {x y z : Int} : z ≤ mx x y ↔ z ≤ x ∨ z ≤ y := by unfold mx; split <;> omega

structure Nd where
  k : Int
  l : Int
  o : Int
  s : Int
  a : Int
  b : Int
  c : Int
  d : Int
  e : Int
  m : Int
def Nd.zero : Nd := ⟨0, 0, 0, 0, 0, 0, 0, 0, 0, 0⟩
def RightP (gw gi gb : Int) (x : Nd) : Prop :=
  May gw gi gb ∧ (x.a < gb ∧ x.b < gb ∧ x.c < gb ∧ x.d < gb ∧ x.e < gb ∧ x.m < gi) ∧ (x.l ≤ 65536 ∧ x.o ≤ 16 ∧ x.s ≤ 768) ∧ ((x.k = 1 ∧ x.m = 0) ∨ (x.k = 2 ∧ x.s = 0))
instance (gw gi gb : Int) (x : Nd) : Decidable (RightP gw gi gb x) := by unfold RightP; exact inferInstance

def vwrite (img : List Int) (l : List (Int × Int)) (at_ x : Int) : Int × List (Int × Int) :=
  if at_ < 0 ∨ at_ ≥ img.length then (8, l) else if vget img l at_ = x then (0, l) else vput img l at_ x
def ifind (len : Int) (gw gi gb n : Int) : Int × Int :=
  if placeOf 8 gw gi gb n < 0 ∨ n = 0 then (0, 1) else if len < wordsOf gw gi gb then (0, 8) else (placeOf 8 gw gi gb n, 0)
theorem ifind_range (len gw gi gb n : Int) : ((ifind len gw gi gb n).2 = 0 ∨ (ifind len gw gi gb n).2 = 1 ∨ (ifind len gw gi gb n).2 = 8) ∧ (0 ≤ (ifind len gw gi gb n).1 ∧ (ifind len gw gi gb n).1 ≤ 2200) ∧ ((ifind len gw gi gb n).2 = 0 → (ifind len gw gi gb n).1 = placeOf 8 gw gi gb n) := by
  have hp : -1 ≤ placeOf 8 gw gi gb n ∧ placeOf 8 gw gi gb n ≤ 2200 := by
    rcases place8_cases gw gi gb n with ⟨h, _⟩ | ⟨h, hn, e⟩
    · omega
    · have h_ : (1 ≤ gw ∧ gw ≤ 4) ∧ (2 ≤ gi ∧ gi ≤ 64) ∧ (2 ≤ gb ∧ gb ≤ 512) := h
      omega
  unfold ifind
  split
  · simp
  · split
    · simp
    · simp; omega
def ndAt (img : List Int) (l : List (Int × Int)) (at_ : Int) : Nd :=
  ⟨vget img l (at_ + 0), vget img l (at_ + 1), vget img l (at_ + 2), vget img l (at_ + 3), vget img l (at_ + 4), vget img l (at_ + 5), vget img l (at_ + 6), vget img l (at_ + 7), vget img l (at_ + 8), vget img l (at_ + 9)⟩
def igetM (img : List Int) (l : List (Int × Int)) (gw gi gb n : Int) : Nd × Int :=
  if (ifind img.length gw gi gb n).2 = 0 then
    if RightP gw gi gb (ndAt img l (ifind img.length gw gi gb n).1) then (ndAt img l (ifind img.length gw gi gb n).1, 0) else (.zero, 4)
  else (.zero, (ifind img.length gw gi gb n).2)
end Go.Proofs.YtmmclabkkigiaaaGreatDoor

set_option maxRecDepth 20000
set_option maxHeartbeats 2000000
namespace Go.Proofs.YtmmclabkkigiaaaGreatDoor
open Go Go.RowKit
set_option linter.unusedSimpArgs false
set_option linter.unusedVariables false

theorem values_spec {wa : Option Addr} {wc : Nat} {ws : List Int} (B : Nat) (w : World) : Spec Tryz.prog 41 #[(.slice wa ws.length wc)] B w [] (fun v H' => ∃ b1, v = .func (.func 78) #[] #[ptr b1] ∧ H' = [blk b1 (.cells [(.slice wa ws.length wc)].toArray 27 (0, 0))]) := by
 refine spec_Q Tryz.func41 rfl fun hs => ?_
 refine W.sr fun K1 hK1 => ?_
 refine zN [(.slice wa ws.length wc)] 27 hs fun b4 w2 hs3 => ?_
 refine zE 1 (hK1 _ _ ?_)
 refine W.sr fun K5 hK5 => ?_
 refine zE 2 (hK5 _ _ ?_)
 refine W.ret ?_
 refine ret_of (.func (.func 78) #[] #[(.pointer (some ⟨b4, 0, none⟩))]) (by kernel_rfl) ⟨_, ⟨b4, rfl, rfl⟩, hs3⟩

theorem values1_spec {c1 yl : Nat} {wa : Option Addr} {wc : Nat} {ws : List Int} {Y : Nat → Asn} {Z : Asn} (B : Nat) (w : World) (hbm : ws.length ≤ 1000000) (hy : ∀ k : Nat, k < ws.length → ∀ w', YSpec Tryz.prog yl #[(.int .u64 (ws.getD k 0))] B w' [Y k] (fun v H' => (v = .bool true ∧ H' = [Y (k + 1)]) ∨ (v = .bool false ∧ H' = [Z]))) : Spec Tryz.prog 78 #[(.func (.yield yl) #[] #[]), (.pointer (some ⟨c1, 0, none⟩))] B w [blk c1 (.cells [(.slice wa ws.length wc)].toArray 27 (0, 0)), kU64.row wa wc ws, Y 0] (fun v H' => v = .tuple #[] ∧ (H' = [blk c1 (.cells [(.slice wa ws.length wc)].toArray 27 (0, 0)), kU64.row wa wc ws, Y ws.length] ∨ H' = [blk c1 (.cells [(.slice wa ws.length wc)].toArray 27 (0, 0)), kU64.row wa wc ws, Z])) := by
 refine spec_W Tryz.func78 rfl fun l0 hs => ?_
 refine W.sr fun K1 hK1 => ?_
 refine zL ⟨c1, 0, none⟩ (.slice wa ws.length wc) (hs.cellAt 0 rfl rfl) ?_
 refine zE 2 (hK1 _ _ ?_)
 refine W.block ?_
 refine W.loop (G := Nat) (fun | k, s_, w_ => (∃ us, s_ = slots 16 [(0, (.func (.yield yl) #[] #[])), (5, (.slice wa ws.length wc)), (6, (.int .i64 (ws.length : Int))), (7, (.int .i64 ((k : Nat) : Int)))] us) ∧ St B w l0 w_ [blk c1 (.cells [(.slice wa ws.length wc)].toArray 27 (0, 0)), kU64.row wa wc ws, Y k] ∧ (k ≤ ws.length)) (fun k => ws.length - k) 0 ⟨slots_intro _ (by kernel_rfl), hs, by omega⟩ ?_
 rintro k _ w2 ⟨⟨us, rfl⟩, hs3, hk0⟩
 refine W.sr fun K4 hK4 => ?_
 refine zE 1 (hK4 _ _ ?_)
 refine W.seq fun K5 hK5 => ?_
 refine W.cond (decide (((k : Nat) : Int) < (ws.length : Int))) (by kernel_rfl) (fun h6 => ?_) (fun h6 => ?_)
 ·
  have h6p := of_decide_eq_true h6
  refine W.skip ?_
  refine hK5 _ _ ?_
  refine W.seq fun K7 hK7 => ?_
  refine W.block ?_
  refine W.sr fun K8 hK8 => ?_
  have h10 : (k : Nat) < ws.length := by omega
  have hk9 := h10
  refine ops_R (runs_index (a := wa) (n := ws.length) (z := ((k : Nat) : Int)) (size := 1) (k : Nat) rfl hk9 (kU64.addr (St.kcells kU64 hs3 1 rfl) hk9) (by kernel_rfl)) ?_
  refine zL ((adr wa ((k : Nat) * 1)).add 0) (.int .u64 (ws.getD (k : Nat) 0)) (kU64.at (St.kcells kU64 hs3 1 rfl) hk9 0 0 rfl) ?_
  refine zE 1 (hK8 _ _ ?_)
  refine W.sr fun K11 hK11 => ?_
  refine zR 2 ?_
  have hs12 := St.f2 hs3
  refine ops_yield (pre := [Y k]) (l := yl) hs12 (by kernel_rfl) (by kernel_rfl) (hy k (by omega) _) ?_
  rintro _ _ w13 (⟨rfl, rfl⟩ | ⟨rfl, rfl⟩) hs14
  ·
   have hs15 : St B w l0 w13 [Y (k + 1), blk c1 (.cells [(.slice wa ws.length wc)].toArray 27 (0, 0)), kU64.row wa wc ws] := hs14
   refine zE 1 (hK11 _ _ ?_)
   refine W.cond_false false (by kernel_rfl) rfl ?_
   refine W.skip ?_
   refine normal_block ?_
   refine hK7 _ _ ?_
   refine W.region ?_
   have h16 : -9223372036854775808 ≤ (((k : Nat) : Int) + 1) ∧ (((k : Nat) : Int) + 1) ≤ 9223372036854775807 := by omega
   refine zI _ (wrap_i64 h16.1 h16.2) ?_
   refine zE 1 ?_
   have hs17 := St.f2 hs15
   have hs18 := St.f2 hs17
   exact ⟨k + 1, ⟨slots_intro _ (by kernel_rfl), hs18, by omega⟩, by omega⟩
  ·
   have hs19 : St B w l0 w13 [Z, blk c1 (.cells [(.slice wa ws.length wc)].toArray 27 (0, 0)), kU64.row wa wc ws] := hs14
   refine zE 1 (hK11 _ _ ?_)
   refine W.cond_true true (by kernel_rfl) rfl ?_
   refine W.ret (ret_block (ret_seq (ret_seq (ret_block ?_))))
   have hs20 := St.f2 hs19
   have hs21 := St.f2 hs20
   refine ret_of (.tuple #[]) (by kernel_rfl) ⟨_, ⟨rfl, .inr rfl⟩, hs21⟩
 ·
  have h6p := of_decide_eq_false h6
  refine W.exit (exit_seq (exit_seq (exit_here ?_)))
  have hn_ : k = ws.length := by omega
  subst hn_
  refine ret_ofN (.tuple #[]) (by kernel_rfl) ⟨_, ⟨rfl, .inl rfl⟩, hs3⟩

end Go.Proofs.YtmmclabkkigiaaaGreatDoor

set_option linter.unusedVariables false
set_option maxRecDepth 20000
set_option maxHeartbeats 4000000
namespace Go.Proofs.YtmmclabkkigiaaaGreatDoor
open Go Go.RowKit
set_option linter.unusedSimpArgs false
set_option linter.unusedVariables false

def sumof_D29 (p28 : Int) : Option (Int) :=
 (sumnow_M p28).bind fun r44 =>
some r44

def sumof_R29 (ws : List Int) (k22 : Nat) (c23 : Int → Option (Int)) (p28 : Int) : Option (Int) :=
 (sumadd_M p28 (ws.getD k22 0)).bind fun r67 =>
c23 r67

def sumof_M (ws : List Int) : Option (Int) :=
 need (ws.length ≤ 1000000) <|
rounds (fun k_ c_ s_ => sumof_R29 ws k_ c_ s_) (fun s_ => sumof_D29 s_) ws.length 0 14695981039346656037

theorem sumof_walk {ws : List Int} {wa : Option Addr} {wc : Nat} {r : Int} (B : Nat) (w : World) (hm : sumof_M ws = some r) : Spec Tryz.prog 11 #[(.slice wa ws.length wc)] B w [kU64.row wa wc ws] (fun v H' => v = .int .u64 r ∧ H' = [kU64.row wa wc ws]) := by
 refine spec_W Tryz.func11 rfl fun l0 hs => ?_
 unfold sumof_M at hm
 refine W.sr fun K1 hK1 => ?_
 refine zE 1 (hK1 _ _ ?_)
 refine W.sr fun K2 hK2 => ?_
 refine ops_call0 hs (by kernel_rfl) (sumnew_spec B _) ?_
 rintro _ _ w4 ⟨b3, rfl, rfl⟩ hs5
 have hs6 := St.ap1 hs5
 refine zE 1 (hK2 _ _ ?_)
 refine W.sr fun K7 hK7 => ?_
 refine zR 2 ?_
 refine zN [.nilFunc] 83 hs6 fun b10 w8 hs9 => ?_
 refine ops_store (off := 0) (cs := [.nilFunc]) (vs := [(.func (.func 40) #[(.pointer (some ⟨b3, 0, none⟩))] #[])]) hs9 (by kernel_rfl) (by simp) rfl (fun w11 hs12 => ?_)
 have hs13 : St B w l0 w11 [blk b10 (.cells [(.func (.func 40) #[(.pointer (some ⟨b3, 0, none⟩))] #[])].toArray 83 (0, 0)), blk b3 (.cells [(.int .u64 14695981039346656037)].toArray 147 (0, 0)), kU64.row wa wc ws] := hs12
 refine zD (hK7 _ _ ?_)
 refine W.seq fun K14 hK14 => ?_
 refine W.sr fun K15 hK15 => ?_
 refine zR 1 ?_
 refine ops_call0 hs13 (by kernel_rfl) (values_spec (wa := wa) (wc := wc) (ws := ws) B _) ?_
 rintro _ _ w17 ⟨b16, rfl, rfl⟩ hs18
 have hs19 := St.ap1 hs18
 refine zD (hK15 _ _ ?_)
 refine W.block ?_
 obtain ⟨h20, hm⟩ := need_some hm
 refine W.norm (n := 17) (l := [(3, (.pointer (some ⟨b3, 0, none⟩))), (4, (.pointer (some ⟨b10, 0, none⟩))), (10, (.func (.func 78) #[] #[(.pointer (some ⟨b16, 0, none⟩))]))]) (by kernel_rfl) (fun us21 => ?_)
 have hs24 := St.f2 hs19
 have hs25 := St.f2 hs24
 have hs26 := St.f3 hs25
 have hs27 := St.f3 hs26
 have hs34 := St.f3 hs27
 have hs35 := St.f3 hs34
 have hs36 := St.f3 hs35
 have hs37 := St.f3 hs36
 have hF38 : rounds (fun k_ c_ s_ => sumof_R29 ws k_ c_ s_) (fun s_ => sumof_D29 s_) (ws.length - 0) 0 14695981039346656037 = some r := by rw [Nat.sub_zero]; exact hm
 clear hm
 refine W.roundsA (G := Int) (GZ := Unit) (gf := 78) (lb := #[(.pointer (some ⟨b16, 0, none⟩))]) ws.length (fun k_ p28 => rounds (fun k_ c_ s_ => sumof_R29 ws k_ c_ s_) (fun s_ => sumof_D29 s_) (ws.length - k_) k_ p28 = some r) (fun p28 => [blk b10 (.cells [(.func (.func 40) #[(.pointer (some ⟨b3, 0, none⟩))] #[])].toArray 83 (0, 0)), blk b3 (.cells [(.int .u64 p28)].toArray 147 (0, 0))]) .ret (fun (_ : Unit) => False) (fun _ => []) [blk b16 (.cells [(.slice wa ws.length wc)].toArray 27 (0, 0)), kU64.row wa wc ws] (fun k_ => #[(.int .u64 (ws.getD k_ 0))]) (fun k_ l_ => slotsD 17 ((11, (.int .u64 (ws.getD k_ 0))) :: [(3, (.pointer (some ⟨b3, 0, none⟩))), (4, (.pointer (some ⟨b10, 0, none⟩))), (10, (.func (.func 78) #[] #[(.pointer (some ⟨b16, 0, none⟩))]))]) us21 (some l_) []) 14695981039346656037 hF38 hs37 rfl (by kernel_rfl) (fun _ _ => by kernel_rfl) (fun _ => rfl) (fun a_ k_ l_ h1_ h2_ => ⟨rel_round1 (n := 17) (by decide) h1_ h2_, rfl⟩) (fun l_ => #[.func (.yield l_) #[] #[], (.pointer (some ⟨b16, 0, none⟩))]) (fun _ => rfl) (fun l_ w_ Y_ Z_ hy_ => values1_spec (ws := ws) (yl := l_) (Y := Y_) (Z := Z_) (hbm := h20) (hy := fun k_ h_ w_ => hy_ k_ h_ w_) _ w_) ?_ ?_ ?_
 rotate_left
 ·
  rintro D33 w39 p28 hF41 hs40
  replace hF41 : rounds (fun k_ c_ s_ => sumof_R29 ws k_ c_ s_) (fun s_ => sumof_D29 s_) (ws.length - ws.length) ws.length p28 = some r := hF41
  rw [rounds_end] at hF41
  have hm : sumof_D29 p28 = some r := hF41
  clear hF41
  unfold sumof_D29 at hm
  have hs42 : St B w l0 w39 [blk D33 (.deferred (some [])), blk b16 (.cells [(.slice wa ws.length wc)].toArray 27 (0, 0)), kU64.row wa wc ws, blk b10 (.cells [(.func (.func 40) #[(.pointer (some ⟨b3, 0, none⟩))] #[])].toArray 83 (0, 0)), blk b3 (.cells [(.int .u64 p28)].toArray 147 (0, 0))] := hs40
  refine normal_block ?_
  refine hK14 _ _ ?_
  refine W.sr fun K43 hK43 => ?_
  refine zR 1 ?_
  obtain ⟨r44, h45, hm⟩ := bind_some hm
  have hs46 := St.f4 hs42
  refine zC11 hs46 (sumnow_walk (sb := b3) (s_ := p28) (hm := h45) B _) fun w47 hs49 => ?_
  refine zE 1 (hK43 _ _ ?_)
  refine W.ret ?_
  obtain rfl := some_inj hm
  have hs50 := St.f4 hs49
  have hs51 := St.f4 hs50
  have hs52 := St.f4 hs51
  have hs53 := St.f3 hs52
  have hs54 := St.f4 hs53
  refine leave_mark (D := D33) (v := (.int .u64 r44)) hs54 (by kernel_rfl) (fun w55 hs56 => (resD_one rfl (.tmp (by kernel_rfl)))) (fun w55 hs56 => ?_)
  have hs57 := St.f2 hs56
  have hs58 := St.tk1 hs57
  exact ⟨_, ⟨rfl, rfl⟩, hs58⟩
 ·
  rintro _ _ _ h_ _
  exact h_.elim
 ·
  rintro k22 hk59 rc31 l30 w60 p28 hF64 lf61 hs62 K63 hK63
  replace hF64 : rounds (fun k_ c_ s_ => sumof_R29 ws k_ c_ s_) (fun s_ => sumof_D29 s_) (ws.length - k22) k22 p28 = some r := hF64
  rw [rounds_at hk59] at hF64
  obtain ⟨c23, hc23⟩ : ∃ c_, c_ = rounds (fun k_ c_ s_ => sumof_R29 ws k_ c_ s_) (fun s_ => sumof_D29 s_) (ws.length - (k22 + 1)) (k22 + 1) := ⟨_, rfl⟩
  rw [← hc23] at hF64
  have hm : sumof_R29 ws k22 c23 p28 = some r := hF64
  clear hF64
  unfold sumof_R29 at hm
  refine W.region ?_
  refine zE 1 ?_
  refine hK63 _ _ hs62 (fun w65 hs66 => ?_)
  refine W.block ?_
  refine W.region ?_
  refine zL ⟨b10, 0, none⟩ (.func (.func 40) #[(.pointer (some ⟨b3, 0, none⟩))] #[]) (hs66.cellAt 1 rfl rfl) ?_
  refine zR 1 ?_
  obtain ⟨r67, h68, hm⟩ := bind_some hm
  have hs69 := St.f2 hs66
  refine zC11 hs69 (sumadd_walk (sb := b3) (s_ := p28) (w_ := (ws.getD k22 0)) (hm := h68) B _) fun w70 hs72 => ?_
  refine zD ?_
  refine normal_block ?_
  have hs73 := St.f2 hs72
  have hs74 := St.f2 hs73
  rw [hc23] at hm
  exact ⟨r67, hm, hs74⟩

end Go.Proofs.YtmmclabkkigiaaaGreatDoor

namespace Go.Proofs.YtmmclabkkigiaaaGreatDoor
open Go Go.RowKit

theorem W.normD {P : Program} {c : Code} {s : Fs} {w : World} {Q : Exit → Fs → World → Prop} {n : Nat} {r : Option Nat} {d : List Deferred} {l : List (Nat × Value)} (h : ((s.n, s.r, s.d), l.map fun p => s.f p.1) = ((n, r, d), l.map (·.2))) (hk : ∀ us, W P c (slotsD n l us r d) w Q) : W P c s w Q := by
  obtain ⟨us, rfl⟩ := slotsD_intro s h
  exact hk us
theorem run_enterLoop_inner {P : Program} {w : World} {lo : Nat} {rc0 : Loop} (h : w.heap[lo]? = some (.loop rc0)) (fn : FuncId) (tmps : Array Value) (ps : Array Tmp) (assign body : Code) :
    (Instr.enterLoop fn tmps ps assign body (some lo)).run P w = .ok (w.heap.size, []) (w.alloc (.loop { state := .ready, pending := none, fn, tmps, params := ps, assign, body, defers := rc0.defers })) := by
  unfold Instr.enterLoop
  simp only [Sem.run_bind, run_getLoop h, run_newObj_alloc, Result.andThen, Sem.run_pure]

theorem W.rangeFuncIn {P : Program} {s : Fs} {w : World} {Q : Exit → Fs → World → Prop} {B : Nat} {w0 : World} {l0 : List Nat} {g : Operand} {ps : Array Tmp} {assign body : Code} {gf : Nat} {lb : Array Value} {pre R : List Asn}
    {post : Loop → Nat → Value → List Asn → Prop} {lo : Nat} {rc0 : Loop}
    (hs : St B w0 l0 w (pre ++ (blk lo (.loop rc0) :: R))) (hr : s.r = some lo) (hg : evS s g = .func (.func gf) #[] lb) (hf : ∀ args w, (callFunc gf args).run P w = .ok (.enter gf args) w)
    (hc : ∀ (rc : Loop) (l : Nat) (w1 : World), rc.tmps.size = s.n → (∀ i, rc.tmps.getD i undef = s.f i) → rc.state = .ready → rc.pending = none → rc.params = ps → rc.assign = assign → rc.body = body →
      St B w0 l0 w1 (blk l (.loop rc) :: (pre ++ (blk lo (.loop rc0) :: R))) → Spec P gf (#[.func (.yield l) #[] #[]] ++ lb) B w1 (blk l (.loop rc) :: pre) (post rc l))
    (hk : ∀ (rc : Loop) (l : Nat) (v : Value) (H' : List Asn), post rc l v H' → ∃ rc' H'', rc'.state ≠ .busy ∧ H' = blk l (.loop rc') :: H'' ∧
      ∀ w3, St B w0 l0 w3 (H'' ++ (blk lo (.loop rc0) :: R)) → match rc'.pending with
        | none => Q .normal s w3
        | some c => W P c s w3 Q) : W P (.rangeFunc g ps assign body) s w Q := by
  refine ⟨fun x hx => ?_⟩
  rw [hr]
  refine wpIn_rangeFunc ?_
  intro fn _
  obtain ⟨rc, hrc⟩ : ∃ rc : Loop, rc = { state := .ready, pending := none, fn, tmps := x.tmps, params := ps, assign, body, defers := rc0.defers } := ⟨_, rfl⟩
  have hB := hs.size
  have hlo : w.heap[lo]? = some (.loop rc0) := by
    refine hs.heapAt pre.length ?_
    simp
  have hs2 : St B w0 l0 (w.alloc (.loop rc)) (blk w.heap.size (.loop rc) :: (pre ++ (blk lo (.loop rc0) :: R))) := by
    refine St.step0 (post := [blk w.heap.size (.loop rc)]) hs ⟨[w.heap.size], ⟨[w.heap.size], [], ⟨hB, heap_alloc_new w _, rfl⟩, fun c => by simp, fun c _ => by simp, by simp⟩, rfl, rfl, rfl, by simp, fun c hc _ => Below.heap_alloc _ _ _ hc, fun c hc => .inr (by simp only [List.mem_singleton] at hc; omega)⟩
  have hspec := hc rc w.heap.size _ (by rw [hrc]; exact hx.1.1) (by rw [hrc]; exact hx.2) (by rw [hrc]) (by rw [hrc]) (by rw [hrc]) (by rw [hrc]) (by rw [hrc]) hs2
  have hs3 : St B w0 l0 (w.alloc (.loop rc)) ((blk w.heap.size (.loop rc) :: pre) ++ (blk lo (.loop rc0) :: R)) := hs2
  obtain ⟨l1, s1, key⟩ := hs3.part
  refine ⟨w.heap.size, [], w.alloc (.loop rc), { target := .fn (.func gf) lb, args := #[.func (.yield w.heap.size) #[] #[]] }, w.alloc (.loop rc), gf,
    #[.func (.yield w.heap.size) #[] #[]] ++ lb, w.alloc (.loop rc), by rw [show (fen (some lo)).round = some lo from rfl, run_enterLoop_inner hlo, ← hrc], ?_, fun _ _ => trivial, ?_, fen_depth, ?_⟩
  · simp only [resolve, ev_rel hx, hg]
    simp [go_sem]
    rfl
  · simp [invoke, go_sem, hf]
  · refine calls_fen (Calls.mono (hspec l1 hs3.size s1) ?_)
    rintro e w3 ⟨v, rfl, H', l', hp, hsep, hu⟩
    obtain ⟨rc', H'', hne, rfl, hfin⟩ := hk rc _ v H' hp
    have hs4 := key w3 _ l' hsep hu
    have hs5 := putObj_blk (.loop { rc' with state := .exhausted }) hs4
    have hs6 := hs5.drop
    refine ⟨rc'.pending, _, run_endLoop (hs4.heapAt 0 rfl) hne, ?_⟩
    have h8 := hfin _ hs6
    have hrel : Rel { x with defers := [] ++ x.defers } s := hx
    cases hpe : rc'.pending with
    | none => rw [hpe] at h8; exact ⟨_, hrel, hr, h8⟩
    | some c =>
      rw [hpe] at h8
      have h9 := W.out h8 _ hrel
      rw [hr] at h9
      exact h9

theorem W.roundsIn {G GZ : Type} {P : Program} {s : Fs} {w : World} {Q : Exit → Fs → World → Prop} {B : Nat} {w0 : World} {l0 : List Nat} {g : Operand} {ps : Array Tmp} {assign body : Code} {gf : Nat} {lb : Array Value} {lo : Nat} {rc0 : Loop}
    (n : Nat) (F : Nat → G → Prop) (Hs : G → List Asn) (c : Code) (FZ : GZ → Prop) (HsZ : GZ → List Asn) (own : List Asn) (enc : Nat → Array Value) (s0 : Nat → Nat → Fs) (x0 : G) (h0 : F 0 x0)
    (hs : St B w0 l0 w ((own ++ Hs x0) ++ [blk lo (.loop rc0)])) (hr : s.r = some lo) (hg : evS s g = .func (.func gf) #[] lb) (hf : ∀ args w, (callFunc gf args).run P w = .ok (.enter gf args) w) (hsz : ∀ k, (enc k).size = ps.size)
    (hrel : ∀ (a : Array Value) (k l : Nat), a.size = s.n → (∀ i, a.getD i undef = s.f i) → Rel ⟨(ps.zip (enc k)).foldl (fun tmps (t, a) => tmps.setIfInBounds t a) a, []⟩ (s0 k l) ∧ (s0 k l).r = some l)
    (ar : Nat → Array Value) (har : ∀ l, #[.func (.yield l) #[] #[]] ++ lb = ar l)
    (iter : ∀ (l : Nat) (w1 : World) (Y : Nat → Asn) (Z : Asn), (∀ k, k < n → ∀ w', YSpec P l (enc k) B w' [Y k] (fun v H' => (v = .bool true ∧ H' = [Y (k + 1)]) ∨ (v = .bool false ∧ H' = [Z]))) →
      Spec P gf (ar l) B w1 (own ++ [Y 0]) (fun v H' => v = .tuple #[] ∧ (H' = own ++ [Y n] ∨ H' = own ++ [Z])))
    (round : ∀ (k : Nat), k < n → ∀ (rc : Loop) (l : Nat) (w' : World) (x : G), F k x → ∀ lf, St B w' lf w' (blk l (.loop rc) :: Hs x) → ∀ K : Fs → World → Prop, (∀ s' w1, St B w' lf w1 (blk l (.loop rc) :: Hs x) →
      (∀ w2, St B w' lf w2 (blk l (.loop { rc with state := .busy }) :: Hs x) → W P body s' w2 (rq B w' lf l rc (F (k + 1)) Hs c FZ HsZ)) → K s' w1) → W P assign (s0 k l) w' (seqQ K (fun _ _ _ => False)))
    (done : ∀ w3 x, F n x → St B w0 l0 w3 ((own ++ Hs x) ++ [blk lo (.loop rc0)]) → Q .normal s w3)
    (jump : ∀ w3 z, FZ z → St B w0 l0 w3 ((own ++ HsZ z) ++ [blk lo (.loop rc0)]) → W P c s w3 Q) : W P (.rangeFunc g ps assign body) s w Q := by
  refine W.rangeFuncIn (pre := own ++ Hs x0) (R := []) (post := fun rc l v H' => v = .tuple #[] ∧ ((∃ x, F n x ∧ H' = blk l (.loop rc) :: (own ++ Hs x)) ∨ (∃ z, FZ z ∧ H' = blk l (.loop { rc with state := .done, pending := some c }) :: (own ++ HsZ z))) ∧ rc.state = .ready ∧ rc.pending = none) hs hr hg hf ?_ ?_
  · intro rc l w1 h1 h2 h3 h4 h5 h6 h7 hs1
    have hyy : ∀ k, k < n → ∀ w', YSpec P l (enc k) B w' [YA l rc (F k) Hs] (fun v H' => (v = .bool true ∧ H' = [YA l rc (F (k + 1)) Hs]) ∨ (v = .bool false ∧ H' = [YA l { rc with state := .done, pending := some c } FZ HsZ])) := by
      intro k hk w'
      obtain ⟨hrl, hrr⟩ := hrel rc.tmps k l h1 h2
      rw [← h5] at hrl
      refine yspec_ghost h3 h4 (by rw [h5]; exact hsz k) (s0 k l) hrl hrr ?_
      intro x hF lf hs2
      have hw := round k hk rc l w' x hF lf hs2
      rw [← h6, ← h7] at hw
      exact hw
    have hit := iter l w1 (fun k => YA l rc (F k) Hs) (YA l { rc with state := .done, pending := some c } FZ HsZ) hyy
    rw [← har l] at hit
    intro lf hB hsep
    have st1 : St B w1 lf w1 (blk l (.loop rc) :: (own ++ Hs x0)) := St.begin hB hsep
    have hp1 : (blk l (.loop rc) :: (own ++ Hs x0)).Perm (blk l (.loop rc) :: Hs x0 ++ own) := by
      simp only [List.cons_append]
      exact List.Perm.cons _ List.perm_append_comm
    have st2 := St.close (F := F 0) (Hs := fun x => blk l (.loop rc) :: Hs x) x0 h0 (st1.perm hp1)
    have st3 : St B w1 lf w1 (own ++ [YA l rc (F 0) Hs]) := st2.perm (List.perm_append_singleton _ _).symm
    have st4 : St B w1 lf w1 ((own ++ [YA l rc (F 0) Hs]) ++ []) := by simpa using st3
    obtain ⟨l1, s1, key⟩ := st4.part
    refine Calls.mono (hit l1 hB s1) ?_
    rintro e w3 ⟨v, rfl, H', l', ⟨rfl, hp⟩, hsep', hu⟩
    have fin : ∀ {G' : Type} (rc' : Loop) (F' : G' → Prop) (Hs' : G' → List Asn), H' = own ++ [YA l rc' F' Hs'] → ∃ x, F' x ∧ St B w1 lf w3 (blk l (.loop rc') :: (own ++ Hs' x)) := by
      intro G' rc' F' Hs' hH
      subst hH
      have st5 := key w3 _ l' hsep' hu
      have st6 : St B w1 lf w3 (YA l rc' F' Hs' :: own) := by
        have : ((own ++ [YA l rc' F' Hs']) ++ []).Perm (YA l rc' F' Hs' :: own) := by rw [List.append_nil]; exact List.perm_append_singleton (YA l rc' F' Hs') own
        exact st5.perm this
      obtain ⟨x, hF, st7⟩ := St.open (F := F') (Hs := fun x => blk l (.loop rc') :: Hs' x) st6
      refine ⟨x, hF, st7.perm ?_⟩
      simp only [List.cons_append]
      exact List.Perm.cons _ List.perm_append_comm
    rcases hp with hp | hp
    · obtain ⟨x, hF, _, _, l5, h8, h9⟩ := fin _ _ _ hp
      exact ⟨_, rfl, _, l5, ⟨rfl, .inl ⟨x, hF, rfl⟩, h3, h4⟩, h8, h9⟩
    · obtain ⟨z, hz, _, _, l5, h8, h9⟩ := fin _ _ _ hp
      exact ⟨_, rfl, _, l5, ⟨rfl, .inr ⟨z, hz, rfl⟩, h3, h4⟩, h8, h9⟩
  · rintro rc l v H' ⟨rfl, hp, h3, h4⟩
    rcases hp with ⟨x, hF, rfl⟩ | ⟨z, hz, rfl⟩
    · refine ⟨rc, own ++ Hs x, (fun h => by have h' := h3.symm.trans h; cases h'), rfl, fun w3 hs3 => ?_⟩
      rw [h4]
      exact done w3 x hF hs3
    · refine ⟨{ rc with state := .done, pending := some c }, own ++ HsZ z, (fun h => by cases h), rfl, fun w3 hs3 => ?_⟩
      exact jump w3 z hz hs3

section
variable {P : Program} {ops : Array Oper} {i : Nat} {s : Fs} {w : World}
def intQ : Value → Option Int
  | .int _ k => some k
  | _ => none
theorem intQ_some {v : Value} {z : Int} (h : intQ v = some z) : ∃ k, v = .int k z := by
  unfold intQ at h
  split at h
  · rename_i k _
    cases h
    exact ⟨k, rfl⟩
  · cases h
def slice3Q (P : Program) (ops : Array Oper) (i : Nat) (s : Fs) : Option ((Option Addr × Nat × Nat) × Int × Int × Int × Nat) :=
  match opQ ops i s with
  | some o => match o.op with
    | .slice t x (some y1) (some y2) (some y3) => match P.underlying t, evS s x with
      | some (.slice e), .slice a n c => match P.info? e, intQ (evS s y1), intQ (evS s y2), intQ (evS s y3) with
        | some f, some l, some h, some m => some ((a, n, c), l, h, m, f.size)
        | _, _, _, _ => none
      | _, _ => none
    | _ => none
  | none => none
theorem runs_slice3 {a : Option Addr} {n c size : Nat} (k m z : Nat) (h1 : k ≤ m) (h2 : m ≤ z) (h3 : z ≤ c) (hq : slice3Q P ops i s = some ((a, n, c), (k : Int), (m : Int), (z : Int), size)) :
    RunsTo P ops i s w (.slice (if z = k then a else a.map (·.add (k * size))) (m - k) (z - k)) w := by
  unfold slice3Q at hq
  split at hq
  · rename_i o ho
    split at hq
    · rename_i t x y1 y2 y3 hop
      refine ⟨_, ho, ?_⟩
      split at hq
      · rename_i e a' n' c' hu hx
        split at hq
        · rename_i f l h mx hf hl hh hm
          simp only [Option.some.injEq, Prod.mk.injEq] at hq
          obtain ⟨⟨rfl, rfl, rfl⟩, rfl, rfl, rfl, rfl⟩ := hq
          obtain ⟨q1, e1⟩ := intQ_some hl
          obtain ⟨q2, e2⟩ := intQ_some hh
          obtain ⟨q3, e3⟩ := intQ_some hm
          have hso : (sizeOf e).run P w = .ok f.size w := by simp [sizeOf, typeInfo, hf]
          have hun := run_underlying (P := P) hu w
          have hb : ∀ (q : IntKind) (z y : Nat) (code : BoundsCode), z ≤ y → (Instr.sliceBound (.int q (z : Int)) y code).run P w = .ok z w := by
            intro q z y code hzy
            have : (0 : Int) ≤ (z : Int) ∧ (z : Int) ≤ (y : Int) := ⟨by omega, by omega⟩
            simp only [Instr.sliceBound, asIntOf, Sem.run_bind, Sem.run_pure, Result.andThen_ok, if_pos this, Int.toNat_natCast]
          have hbounds : (Instr.sliceBounds true n' c' (some (.int q1 (k : Int))) (some (.int q2 (m : Int))) (some (.int q3 (z : Int)))).run P w = .ok (k, m, z) w := by
            unfold Instr.sliceBounds
            simp only [Sem.run_bind, Sem.run_pure, Result.andThen_ok, hb q3 z c' _ h3, hb q2 m z _ h2, hb q1 k m _ h1]
          have hxx : (Instr.sliceAt t (.slice a' n' c') (some (.int q1 (k : Int))) (some (.int q2 (m : Int))) (some (.int q3 (z : Int)))).run P w = .ok (.slice (if z = k then a' else a'.map (·.add (k * f.size))) (m - k) (z - k)) w := by
            unfold Instr.sliceAt
            simp only [Sem.run_bind, hun, Result.andThen_ok]
            unfold Instr.slice
            simp only [Sem.run_bind, hun, Result.andThen_ok, hbounds, hso, Sem.run_pure]
          simp only [execOp, hop, hx, Option.map_some, e1, e2, e3, Sem.run_bind, hxx, Result.andThen_ok, Sem.run_pure]
        · cases hq
      · cases hq
    · cases hq
  · cases hq
end
end Go.Proofs.YtmmclabkkigiaaaGreatDoor

set_option maxRecDepth 20000
namespace Go.Proofs.YtmmclabkkigiaaaGreatDoor
open Go Go.RowKit
set_option linter.unusedSimpArgs false
set_option linter.unusedVariables false

theorem chunk_spec {ba : Option Addr} {bn bc : Nat} (B : Nat) (w : World) : Spec Tryz.prog 43 #[(.slice ba bn bc), (.int .i64 8)] B w [] (fun v H' => ∃ b1 b2, v = .func (.func 79) #[] #[ptr b1, ptr b2] ∧ H' = [blk b1 (.cells [(.slice ba bn bc)].toArray 73 (0, 0)), blk b2 (.cells [(.int .i64 8)].toArray 3 (0, 0))]) := by
 refine spec_Q Tryz.func43 rfl fun hs => ?_
 refine W.sr fun K1 hK1 => ?_
 refine zN [(.slice ba bn bc)] 73 hs fun b4 w2 hs3 => ?_
 refine zN [(.int .i64 8)] 3 hs3 fun b7 w5 hs6 => ?_
 refine zE 1 (hK1 _ _ ?_)
 refine W.seq fun K8 hK8 => ?_
 refine W.sr fun K9 hK9 => ?_
 refine zL ⟨b7, 0, none⟩ (.int .i64 8) (hs6.cellAt 0 rfl rfl) ?_
 refine zE 1 (hK9 _ _ ?_)
 refine W.cond_false false (by kernel_rfl) rfl ?_
 refine W.skip ?_
 refine hK8 _ _ ?_
 refine W.sr fun K10 hK10 => ?_
 refine zE 2 (hK10 _ _ ?_)
 refine W.ret ?_
 have hs11 := St.f1 hs6
 refine ret_of (.func (.func 79) #[] #[(.pointer (some ⟨b4, 0, none⟩)), (.pointer (some ⟨b7, 0, none⟩))]) (by kernel_rfl) ⟨_, ⟨b4, b7, rfl, rfl⟩, hs11⟩

theorem back_spec {ba : Option Addr} {bn bc : Nat} (B : Nat) (w : World) : Spec Tryz.prog 44 #[(.slice ba bn bc)] B w [] (fun v H' => ∃ b1, v = .func (.func 80) #[] #[ptr b1] ∧ H' = [blk b1 (.cells [(.slice ba bn bc)].toArray 73 (0, 0))]) := by
 refine spec_Q Tryz.func44 rfl fun hs => ?_
 refine W.sr fun K1 hK1 => ?_
 refine zN [(.slice ba bn bc)] 73 hs fun b4 w2 hs3 => ?_
 refine zE 1 (hK1 _ _ ?_)
 refine W.sr fun K5 hK5 => ?_
 refine zE 2 (hK5 _ _ ?_)
 refine W.ret ?_
 refine ret_of (.func (.func 80) #[] #[(.pointer (some ⟨b4, 0, none⟩))]) (by kernel_rfl) ⟨_, ⟨b4, rfl, rfl⟩, hs3⟩

end Go.Proofs.YtmmclabkkigiaaaGreatDoor

namespace Go.Proofs.YtmmclabkkigiaaaGreatDoor
theorem mn_part {n k : Nat} (h : 8 * k < n) : mn 8 ((n - 8 * k : Nat) : Int) = ((partN n k : Nat) : Int) := by
  unfold mn partN; split <;> split <;> omega
open Go Go.RowKit
theorem part_adr (b q j : Nat) : adr ((some ⟨b, 0, none⟩ : Option Addr).map (·.add (8 * q * 1))) (j * 1) = ⟨b, 8 * q + j, none⟩ := by
  unfold adr Addr.add
  simp
  split <;> split <;> simp_all
theorem part_cell {w : World} {b q j : Nat} {C : Array Value} {e : TypeId} {fz : Nat × Nat} {v : Value} (h : w.heap[b]? = some (.cells C e fz)) (hv : C[8 * q + j]? = some v) :
    w.cell? (adr ((some ⟨b, 0, none⟩ : Option Addr).map (·.add (8 * q * 1))) (j * 1)) = some v := by
  rw [part_adr]
  simp only [World.cell?, h]
  exact hv
theorem drop_bytes {s : ByteArray} {C : Array Value} {q m : Nat} (hC : ∀ j, j < s.size → C[j]? = some (.int .u8 ((strNums s).getD j 0))) (hm : 8 * q + m ≤ s.size) : ∀ j, j < m → C[8 * q + j]? = some (.int .u8 (((strNums s).drop (8 * q)).getD j 0)) := by
  intro j hj
  rw [hC _ (by omega), List.getD_eq_getElem?_getD, List.getD_eq_getElem?_getD, List.getElem?_drop]
end Go.Proofs.YtmmclabkkigiaaaGreatDoor

set_option maxRecDepth 20000
set_option maxHeartbeats 2000000
namespace Go.Proofs.YtmmclabkkigiaaaGreatDoor
open Go Go.RowKit
set_option linter.unusedSimpArgs false
set_option linter.unusedVariables false

theorem chunk1_spec {b0 bn bc c1 c2 yl : Nat} {Y : Nat → Asn} {Z : Asn} (B : Nat) (w : World) (hbc : bn ≤ bc) (hbm : bn ≤ 1000000) (hy : ∀ k : Nat, 8 * k < bn → ∀ w', YSpec Tryz.prog yl #[.slice ((some ⟨b0, 0, none⟩ : Option Addr).map (·.add (8 * k * 1))) (partN bn k) (partN bn k)] B w' [Y k] (fun v H' => (v = .bool true ∧ H' = [Y (k + 1)]) ∨ (v = .bool false ∧ H' = [Z]))) : Spec Tryz.prog 79 #[(.func (.yield yl) #[] #[]), (.pointer (some ⟨c1, 0, none⟩)), (.pointer (some ⟨c2, 0, none⟩))] B w [blk c1 (.cells [(.slice (some ⟨b0, 0, none⟩) bn bc)].toArray 73 (0, 0)), blk c2 (.cells [(.int .i64 8)].toArray 3 (0, 0)), Y 0] (fun v H' => v = .tuple #[] ∧ (H' = [blk c1 (.cells [(.slice (some ⟨b0, 0, none⟩) bn bc)].toArray 73 (0, 0)), blk c2 (.cells [(.int .i64 8)].toArray 3 (0, 0)), Y ((bn + 7) / 8)] ∨ H' = [blk c1 (.cells [(.slice (some ⟨b0, 0, none⟩) bn bc)].toArray 73 (0, 0)), blk c2 (.cells [(.int .i64 8)].toArray 3 (0, 0)), Z])) := by
 refine spec_W Tryz.func79 rfl fun l0 hs => ?_
 refine W.sr fun K1 hK1 => ?_
 refine zE 1 (hK1 _ _ ?_)
 refine W.block ?_
 refine W.loop (G := Nat) (fun | k, s_, w_ => (∃ us, s_ = slots 31 [(0, (.func (.yield yl) #[] #[])), (1, (.pointer (some ⟨c1, 0, none⟩))), (2, (.pointer (some ⟨c2, 0, none⟩))), (4, (.int .i64 ((8 * k : Nat) : Int)))] us) ∧ St B w l0 w_ [blk c1 (.cells [(.slice (some ⟨b0, 0, none⟩) bn bc)].toArray 73 (0, 0)), blk c2 (.cells [(.int .i64 8)].toArray 3 (0, 0)), Y k] ∧ (8 * k < bn + 8)) (fun k => bn - 8 * k) 0 ⟨slots_intro _ (by kernel_rfl), hs, by omega⟩ ?_
 rintro k _ w2 ⟨⟨us, rfl⟩, hs3, hk0⟩
 refine W.seq fun K4 hK4 => ?_
 refine W.sr fun K5 hK5 => ?_
 refine zR 1 ?_
 refine zL ⟨c1, 0, none⟩ (.slice (some ⟨b0, 0, none⟩) bn bc) (hs3.cellAt 0 rfl rfl) ?_
 refine zE 2 (hK5 _ _ ?_)
 refine W.cond (decide (((8 * k : Nat) : Int) < (bn : Int))) (by kernel_rfl) (fun h6 => ?_) (fun h6 => ?_)
 ·
  have h6p := of_decide_eq_true h6
  refine W.skip ?_
  refine hK4 _ _ ?_
  refine W.seq fun K7 hK7 => ?_
  refine W.block ?_
  refine W.seq fun K8 hK8 => ?_
  have hs9 := hs3.drew
  refine W.regionD [(0, 0), (0, 0), (0, 0), (6, 6), (8, 8), (17, 17), (63, 32)] (fun w_ => St B w l0 w_ [blk c1 (.cells [(.slice (some ⟨b0, 0, none⟩) bn bc)].toArray 73 (0, 0)), blk c2 (.cells [(.int .i64 8)].toArray 3 (0, 0)), Y k]) (by kernel_rfl) hs9 ?_
  refine any_R 0 (by kernel_rfl) (fun _ hS_ => runs_load (ad := ⟨c2, 0, none⟩) (v := (.int .i64 8)) (by kernel_rfl) (hS_.cellAt 1 rfl rfl)) hs9 ?_
  refine any_R 1 (by kernel_rfl) (fun _ hS_ => runs_load (ad := ⟨c1, 0, none⟩) (v := (.slice (some ⟨b0, 0, none⟩) bn bc)) (by kernel_rfl) (hS_.cellAt 0 rfl rfl)) hs9 ?_
  refine any_val (v := (.int .i64 ((8 * k : Nat) : Int))) (v' := (.int .i64 ((8 * k : Nat) : Int))) 2 (by kernel_rfl) (fun _ => by kernel_rfl) rfl hs9 ?_
  refine any_step 3 (by kernel_rfl) (by kernel_rfl) ?_
  refine ops_R (runs_suffix (a := (some ⟨b0, 0, none⟩)) (n := bn) (c := bc) (z := ((8 * k : Nat) : Int)) (size := 1) (8 * k) rfl (by omega) hbc (by omega) ⟨_, rfl⟩ (by kernel_rfl)) ?_
  refine ops_done (by kernel_rfl) ⟨hs9, ?_⟩
  refine any_val (v := (.int .i64 ((bn - 8 * k : Nat) : Int))) (v' := (.int .i64 ((bn - 8 * k : Nat) : Int))) 4 (by kernel_rfl) (fun _ => by kernel_rfl) rfl hs9 ?_
  refine any_step 5 (by kernel_rfl) (by kernel_rfl) ?_
  have hp_ := part_pos (show 8 * k < bn by omega)
  have hmn_ : mn 8 ((bn - 8 * k : Nat) : Int) = ((partN bn k : Nat) : Int) := mn_part (by omega)
  refine ops_val (v := .int .i64 (mn 8 ((bn - 8 * k : Nat) : Int))) (v' := (.int .i64 ((partN bn k : Nat) : Int))) (by kernel_rfl) (congrArg (Value.int .i64) hmn_) ?_
  refine ops_done (by kernel_rfl) ⟨hs9, ?_⟩
  refine any_val (v := (.int .i64 ((partN bn k : Nat) : Int))) (v' := (.int .i64 ((partN bn k : Nat) : Int))) 6 (by kernel_rfl) (fun _ => by kernel_rfl) rfl hs9 ?_
  refine any_done (by kernel_rfl) ?_
  refine hK8 _ _ ?_
  refine W.sr fun K10 hK10 => ?_
  refine zR 1 ?_
  refine zL ⟨c1, 0, none⟩ (.slice (some ⟨b0, 0, none⟩) bn bc) (hs9.cellAt 0 rfl rfl) ?_
  refine zR 3 ?_
  have h11 : -9223372036854775808 ≤ (((8 * k : Nat) : Int) + ((partN bn k : Nat) : Int)) ∧ (((8 * k : Nat) : Int) + ((partN bn k : Nat) : Int)) ≤ 9223372036854775807 := by omega
  refine zI _ (wrap_i64 h11.1 h11.2) ?_
  refine zR 2 ?_
  have h12 : -9223372036854775808 ≤ (((8 * k : Nat) : Int) + ((partN bn k : Nat) : Int)) ∧ (((8 * k : Nat) : Int) + ((partN bn k : Nat) : Int)) ≤ 9223372036854775807 := by omega
  refine zI _ (wrap_i64 h12.1 h12.2) ?_
  refine ops_R (runs_slice3 (a := (some ⟨b0, 0, none⟩)) (n := bn) (c := bc) (size := 1) (8 * k) (8 * k + partN bn k) (8 * k + partN bn k) (by omega) (by omega) (by omega) (by kernel_rfl)) ?_
  rw [if_neg (by omega), Nat.add_sub_cancel_left]
  have hs13 := St.f2 hs9
  refine ops_yield (pre := [Y k]) (l := yl) hs13 (by kernel_rfl) (by kernel_rfl) (hy k (by omega) _) ?_
  rintro _ _ w14 (⟨rfl, rfl⟩ | ⟨rfl, rfl⟩) hs15
  ·
   have hs16 : St B w l0 w14 [Y (k + 1), blk c1 (.cells [(.slice (some ⟨b0, 0, none⟩) bn bc)].toArray 73 (0, 0)), blk c2 (.cells [(.int .i64 8)].toArray 3 (0, 0))] := hs15
   refine zE 1 (hK10 _ _ ?_)
   refine W.cond_false false (by kernel_rfl) rfl ?_
   refine W.skip ?_
   refine normal_block ?_
   refine hK7 _ _ ?_
   refine W.region ?_
   refine zR 1 ?_
   refine zL ⟨c2, 0, none⟩ (.int .i64 8) (hs16.cellAt 2 rfl rfl) ?_
   have h17 : -9223372036854775808 ≤ (((8 * k : Nat) : Int) + 8) ∧ (((8 * k : Nat) : Int) + 8) ≤ 9223372036854775807 := by omega
   refine zI _ (wrap_i64 h17.1 h17.2) ?_
   refine zE 1 ?_
   have hs18 := St.f2 hs16
   have hs19 := St.f2 hs18
   exact ⟨k + 1, ⟨slots_intro _ (by kernel_rfl), hs19, by omega⟩, by omega⟩
  ·
   have hs20 : St B w l0 w14 [Z, blk c1 (.cells [(.slice (some ⟨b0, 0, none⟩) bn bc)].toArray 73 (0, 0)), blk c2 (.cells [(.int .i64 8)].toArray 3 (0, 0))] := hs15
   refine zE 1 (hK10 _ _ ?_)
   refine W.cond_true true (by kernel_rfl) rfl ?_
   refine W.ret (ret_block (ret_seq (ret_seq (ret_block ?_))))
   have hs21 := St.f2 hs20
   have hs22 := St.f2 hs21
   refine ret_of (.tuple #[]) (by kernel_rfl) ⟨_, ⟨rfl, .inr rfl⟩, hs22⟩
 ·
  have h6p := of_decide_eq_false h6
  refine W.exit (exit_seq (exit_seq (exit_here ?_)))
  have hn_ : k = (bn + 7) / 8 := by omega
  subst hn_
  refine ret_ofN (.tuple #[]) (by kernel_rfl) ⟨_, ⟨rfl, .inl rfl⟩, hs3⟩

end Go.Proofs.YtmmclabkkigiaaaGreatDoor

set_option maxRecDepth 20000
set_option maxHeartbeats 2000000
namespace Go.Proofs.YtmmclabkkigiaaaGreatDoor
open Go Go.RowKit
set_option linter.unusedSimpArgs false
set_option linter.unusedVariables false

theorem back1_spec {b0 q m c1 yl : Nat} {C : Array Value} {e : TypeId} {xs : List Int} {Y : Nat → Asn} {Z : Asn} (B : Nat) (w : World) (hm : m ≤ 8) (hC : ∀ j, j < m → C[8 * q + j]? = some (.int .u8 (xs.getD j 0))) (hy : ∀ k : Nat, k < m → ∀ w', YSpec Tryz.prog yl #[.int .i64 ((m : Int) - 1 - (k : Int)), .int .u8 (xs.getD (m - 1 - k) 0)] B w' [Y k] (fun v H' => (v = .bool true ∧ H' = [Y (k + 1)]) ∨ (v = .bool false ∧ H' = [Z]))) : Spec Tryz.prog 80 #[(.func (.yield yl) #[] #[]), (.pointer (some ⟨c1, 0, none⟩))] B w [blk b0 (.cells C e (C.size, C.size + 1)), blk c1 (.cells [(.slice ((some ⟨b0, 0, none⟩ : Option Addr).map (·.add (8 * q * 1))) m m)].toArray 73 (0, 0)), Y 0] (fun v H' => v = .tuple #[] ∧ (H' = [blk b0 (.cells C e (C.size, C.size + 1)), blk c1 (.cells [(.slice ((some ⟨b0, 0, none⟩ : Option Addr).map (·.add (8 * q * 1))) m m)].toArray 73 (0, 0)), Y m] ∨ H' = [blk b0 (.cells C e (C.size, C.size + 1)), blk c1 (.cells [(.slice ((some ⟨b0, 0, none⟩ : Option Addr).map (·.add (8 * q * 1))) m m)].toArray 73 (0, 0)), Z])) := by
 refine spec_W Tryz.func80 rfl fun l0 hs => ?_
 refine W.sr fun K1 hK1 => ?_
 refine zL ⟨c1, 0, none⟩ (.slice ((some ⟨b0, 0, none⟩ : Option Addr).map (·.add (8 * q * 1))) m m) (hs.cellAt 1 rfl rfl) ?_
 refine zR 1 ?_
 refine ops_val (v := .int .i64 (IntKind.i64.wrap ((m : Int) - 1))) (v' := .int .i64 ((m : Int) - 1 - ((0 : Nat) : Int))) (by kernel_rfl) (congrArg (Value.int .i64) ((wrap_i64 (by omega) (by omega)).trans (by omega))) ?_
 refine zE 1 (hK1 _ _ ?_)
 refine W.block ?_
 refine W.loop (G := Nat) (fun | k, s_, w_ => (∃ us, s_ = slots 19 [(0, (.func (.yield yl) #[] #[])), (1, (.pointer (some ⟨c1, 0, none⟩))), (3, (.int .i64 ((m : Int) - 1 - (k : Int))))] us) ∧ St B w l0 w_ [blk b0 (.cells C e (C.size, C.size + 1)), blk c1 (.cells [(.slice ((some ⟨b0, 0, none⟩ : Option Addr).map (·.add (8 * q * 1))) m m)].toArray 73 (0, 0)), Y k] ∧ (k ≤ m)) (fun k => m - k) 0 ⟨slots_intro _ (by kernel_rfl), hs, by omega⟩ ?_
 rintro k _ w2 ⟨⟨us, rfl⟩, hs3, hk0⟩
 refine W.seq fun K4 hK4 => ?_
 refine W.sr fun K5 hK5 => ?_
 refine zE 2 (hK5 _ _ ?_)
 refine W.cond (decide (((m : Int) - 1 - (k : Int)) ≥ 0)) (by kernel_rfl) (fun h6 => ?_) (fun h6 => ?_)
 ·
  have h6p := of_decide_eq_true h6
  refine W.skip ?_
  refine hK4 _ _ ?_
  refine W.seq fun K7 hK7 => ?_
  refine W.block ?_
  refine W.sr fun K8 hK8 => ?_
  refine zR 2 ?_
  refine zL ⟨c1, 0, none⟩ (.slice ((some ⟨b0, 0, none⟩ : Option Addr).map (·.add (8 * q * 1))) m m) (hs3.cellAt 1 rfl rfl) ?_
  refine zR 1 ?_
  have hkm_ : k < m := by omega
  refine ops_R (v := .pointer (some (adr ((some ⟨b0, 0, none⟩ : Option Addr).map (·.add (8 * q * 1))) ((m - 1 - k) * 1)))) (runs_index (a := ((some ⟨b0, 0, none⟩ : Option Addr).map (·.add (8 * q * 1)))) (n := m) (z := ((m : Int) - 1 - (k : Int))) (size := 1) (m - 1 - k) (by omega) (by omega) ⟨_, rfl⟩ (by kernel_rfl)) ?_
  refine zL (adr ((some ⟨b0, 0, none⟩ : Option Addr).map (·.add (8 * q * 1))) ((m - 1 - k) * 1)) (.int .u8 (xs.getD (m - 1 - k) 0)) (part_cell (hs3.heapAt 0 rfl) (hC (m - 1 - k) (by omega))) ?_
  have hs9 := St.f2 hs3
  refine ops_yield (pre := [Y k]) (l := yl) hs9 (by kernel_rfl) (by kernel_rfl) (hy k (by omega) _) ?_
  rintro _ _ w10 (⟨rfl, rfl⟩ | ⟨rfl, rfl⟩) hs11
  ·
   have hs12 : St B w l0 w10 [Y (k + 1), blk b0 (.cells C e (C.size, C.size + 1)), blk c1 (.cells [(.slice ((some ⟨b0, 0, none⟩ : Option Addr).map (·.add (8 * q * 1))) m m)].toArray 73 (0, 0))] := hs11
   refine zE 1 (hK8 _ _ ?_)
   refine W.cond_false false (by kernel_rfl) rfl ?_
   refine W.skip ?_
   refine normal_block ?_
   refine hK7 _ _ ?_
   refine W.region ?_
   refine zR 1 ?_
   refine ops_val (v := .int .i64 (IntKind.i64.wrap (((m : Int) - 1 - (k : Int)) - 1))) (v' := .int .i64 ((m : Int) - 1 - ((k + 1 : Nat) : Int))) (by kernel_rfl) (congrArg (Value.int .i64) ((wrap_i64 (by omega) (by omega)).trans (by omega))) ?_
   refine zE 1 ?_
   have hs13 := St.f2 hs12
   have hs14 := St.f2 hs13
   exact ⟨k + 1, ⟨slots_intro _ (by kernel_rfl), hs14, by omega⟩, by omega⟩
  ·
   have hs15 : St B w l0 w10 [Z, blk b0 (.cells C e (C.size, C.size + 1)), blk c1 (.cells [(.slice ((some ⟨b0, 0, none⟩ : Option Addr).map (·.add (8 * q * 1))) m m)].toArray 73 (0, 0))] := hs11
   refine zE 1 (hK8 _ _ ?_)
   refine W.cond_true true (by kernel_rfl) rfl ?_
   refine W.ret (ret_block (ret_seq (ret_seq (ret_block ?_))))
   have hs16 := St.f2 hs15
   have hs17 := St.f2 hs16
   refine ret_of (.tuple #[]) (by kernel_rfl) ⟨_, ⟨rfl, .inr rfl⟩, hs17⟩
 ·
  have h6p := of_decide_eq_false h6
  refine W.exit (exit_seq (exit_seq (exit_here ?_)))
  have hn_ : k = m := by omega
  subst hn_
  refine ret_ofN (.tuple #[]) (by kernel_rfl) ⟨_, ⟨rfl, .inl rfl⟩, hs3⟩

end Go.Proofs.YtmmclabkkigiaaaGreatDoor

set_option linter.unusedVariables false
set_option maxRecDepth 20000
set_option maxHeartbeats 2000000
namespace Go.Proofs.YtmmclabkkigiaaaGreatDoor
open Go Go.RowKit
set_option linter.unusedSimpArgs false
set_option linter.unusedVariables false

def opack_D27 (q25 : List Int) : Option (List Int) :=
 some q25

def opack_J3 (c22 : (List Int) → Option (List Int)) (q25 : List Int) (p72 : Int) : Option (List Int) :=
 need (q25.length + 1 ≤ 1000000000) <|
c22 (q25 ++ [p72])

def opack_D108 (c22 : (List Int) → Option (List Int)) (q25 : List Int) (p107 : Int) : Option (List Int) :=
 opack_J3 c22 q25 p107

def opack_R108 (tx_ : ByteArray) (k21 : Nat) (k99 : Nat) (c100 : Int → Option (List Int)) (p107 : Int) : Option (List Int) :=
 (some (((strNums tx_).drop (8 * k21)).getD ((partN tx_.size k21) - 1 - k99) 0)).bind fun r135 =>
need (0 ≤ r135 ∧ r135 ≤ 18446744073709551615) <|
c100 (bits .or .u64 (shlK .u64 p107 8) r135)

def opack_R27 (tx_ : ByteArray) (k21 : Nat) (c22 : (List Int) → Option (List Int)) (q25 : List Int) : Option (List Int) :=
 rounds (fun k_ c_ s_ => opack_R108 tx_ k21 k_ c_ s_) (fun s_ => opack_D108 c22 q25 s_) (partN tx_.size k21) 0 0

def opack_M (tx_ : ByteArray) : Option (List Int) :=
 need (tx_.size ≤ 1000000) <|
rounds (fun k_ c_ s_ => opack_R27 tx_ k_ c_ s_) (fun s_ => opack_D27 s_) ((tx_.size + 7) / 8) 0 ([])

theorem opack_walk {tx_ : ByteArray}  {r : List Int} (B : Nat) (w : World) (hm : opack_M tx_ = some r) : Spec Tryz.prog 12 #[(.string tx_)] B w [] (fun v H' => ∃ a' c', v = .slice a' r.length c' ∧ H' = [kU64.row a' c' r]) := by
 refine spec_Q Tryz.func12 rfl fun hs => ?_
 unfold opack_M at hm
 refine W.sr fun K1 hK1 => ?_
 refine zN [(.slice none 0 0)] 27 hs fun b4 w2 hs3 => ?_
 refine zD (hK1 _ _ ?_)
 refine W.seq fun K5 hK5 => ?_
 refine W.sr fun K6 hK6 => ?_
 refine zR 1 ?_
 refine ops_strBytes (b := tx_) (e := 5) hs3 (by kernel_rfl) (fun b7 c8 C9 w10 hc11 hC12 hs13 => ?_)
 refine ops_call0 hs13 (by kernel_rfl) (chunk_spec (ba := (some ⟨b7, 0, none⟩)) (bn := tx_.size) (bc := c8) B _) ?_
 rintro _ _ w16 ⟨b14, b15, rfl, rfl⟩ hs17
 have hs18 := St.ap2 hs17
 refine zD (hK6 _ _ ?_)
 refine W.block ?_
 obtain ⟨h19, hm⟩ := need_some hm
 refine W.norm (n := 25) (l := [(2, (.pointer (some ⟨b4, 0, none⟩))), (9, (.func (.func 79) #[] #[(.pointer (some ⟨b14, 0, none⟩)), (.pointer (some ⟨b15, 0, none⟩))]))]) (by kernel_rfl) (fun us20 => ?_)
 have hs26 := St.knil kU64 hs18
 have hs32 := St.f4 hs26
 have hs33 := St.f1 hs32
 have hs34 := St.f4 hs33
 have hs35 := St.f4 hs34
 have hs36 := St.f4 hs35
 have hF37 : rounds (fun k_ c_ s_ => opack_R27 tx_ k_ c_ s_) (fun s_ => opack_D27 s_) (((tx_.size + 7) / 8) - 0) 0 ([]) = some r := by rw [Nat.sub_zero]; exact hm
 clear hm
 refine W.roundsA (G := (List Int) × (Option Addr) × Nat) (GZ := Unit) (gf := 79) (lb := #[(.pointer (some ⟨b14, 0, none⟩)), (.pointer (some ⟨b15, 0, none⟩))]) ((tx_.size + 7) / 8) (fun k_ (q25, m23, m24) => rounds (fun k_ c_ s_ => opack_R27 tx_ k_ c_ s_) (fun s_ => opack_D27 s_) (((tx_.size + 7) / 8) - k_) k_ q25 = some r) (fun (q25, m23, m24) => [blk b7 (.cells C9 5 (C9.size, C9.size + 1)), kU64.row m23 m24 q25, blk b4 (.cells [(.slice m23 q25.length m24)].toArray 27 (0, 0))]) .ret (fun (_ : Unit) => False) (fun _ => []) [blk b14 (.cells [(.slice (some ⟨b7, 0, none⟩) tx_.size c8)].toArray 73 (0, 0)), blk b15 (.cells [(.int .i64 8)].toArray 3 (0, 0))] (fun k_ => #[(.slice ((some ⟨b7, 0, none⟩ : Option Addr).map (·.add (8 * k_ * 1))) (partN tx_.size k_) (partN tx_.size k_))]) (fun k_ l_ => slotsD 25 ((10, (.slice ((some ⟨b7, 0, none⟩ : Option Addr).map (·.add (8 * k_ * 1))) (partN tx_.size k_) (partN tx_.size k_))) :: [(2, (.pointer (some ⟨b4, 0, none⟩))), (9, (.func (.func 79) #[] #[(.pointer (some ⟨b14, 0, none⟩)), (.pointer (some ⟨b15, 0, none⟩))]))]) us20 (some l_) []) ([], none, 0) hF37 hs36 rfl (by kernel_rfl) (fun _ _ => by kernel_rfl) (fun _ => rfl) (fun a_ k_ l_ h1_ h2_ => ⟨rel_round1 (n := 25) (by decide) h1_ h2_, rfl⟩) (fun l_ => #[.func (.yield l_) #[] #[], (.pointer (some ⟨b14, 0, none⟩)), (.pointer (some ⟨b15, 0, none⟩))]) (fun _ => rfl) (fun l_ w_ Y_ Z_ hy_ => chunk1_spec (yl := l_) (Y := Y_) (Z := Z_) (hbc := hc11) (hbm := h19) (hy := fun k_ h_ w_ => hy_ k_ (by omega) w_) _ w_) ?_ ?_ ?_
 rotate_left
 ·
  rintro D31 w38 ⟨q25, m23, m24⟩ hF40 hs39
  replace hF40 : rounds (fun k_ c_ s_ => opack_R27 tx_ k_ c_ s_) (fun s_ => opack_D27 s_) (((tx_.size + 7) / 8) - ((tx_.size + 7) / 8)) ((tx_.size + 7) / 8) q25 = some r := hF40
  rw [rounds_end] at hF40
  have hm : opack_D27 q25 = some r := hF40
  clear hF40
  unfold opack_D27 at hm
  have hs41 : St B w [] w38 [blk D31 (.deferred (some [])), blk b14 (.cells [(.slice (some ⟨b7, 0, none⟩) tx_.size c8)].toArray 73 (0, 0)), blk b15 (.cells [(.int .i64 8)].toArray 3 (0, 0)), blk b7 (.cells C9 5 (C9.size, C9.size + 1)), kU64.row m23 m24 q25, blk b4 (.cells [(.slice m23 q25.length m24)].toArray 27 (0, 0))] := hs39
  refine normal_block ?_
  refine hK5 _ _ ?_
  refine W.sr fun K42 hK42 => ?_
  refine zL ⟨b4, 0, none⟩ (.slice m23 q25.length m24) (hs41.cellAt 5 rfl rfl) ?_
  have hs45 := St.f5 hs41
  refine ops_store (off := 0) (cs := [(.slice m23 q25.length m24)]) (vs := [(.slice m23 q25.length m24)]) hs45 (by kernel_rfl) (by simp) rfl (fun w43 hs44 => ?_)
  have hs46 : St B w [] w43 [blk b4 (.cells [(.slice m23 q25.length m24)].toArray 27 (0, 0)), blk D31 (.deferred (some [])), blk b14 (.cells [(.slice (some ⟨b7, 0, none⟩) tx_.size c8)].toArray 73 (0, 0)), blk b15 (.cells [(.int .i64 8)].toArray 3 (0, 0)), blk b7 (.cells C9 5 (C9.size, C9.size + 1)), kU64.row m23 m24 q25] := hs44
  refine zD (hK42 _ _ ?_)
  refine W.ret ?_
  obtain rfl := some_inj hm
  have hs47 := St.f5 hs46
  have hs48 := St.f5 hs47
  have hs49 := St.f5 hs48
  have hs50 := St.f5 hs49
  have hs51 := St.f4 hs50
  have hs52 := St.f5 hs51
  refine leave_mark (D := D31) (v := (.slice m23 q25.length m24)) hs52 (by kernel_rfl) (fun w53 hs54 => (resD_one rfl (.cell (ad := ⟨b4, 0, none⟩) (by kernel_rfl) (by kernel_rfl) (hs54.cellAt 0 rfl rfl)))) (fun w53 hs54 => ?_)
  have hs55 := St.f4 hs54
  have hs56 := St.tk1 hs55
  exact ⟨_, ⟨m23, m24, rfl, rfl⟩, hs56⟩
 ·
  rintro _ _ _ h_ _
  exact h_.elim
 ·
  rintro k21 hk57 rc29 l28 w58 ⟨q25, m23, m24⟩ hF62 lf59 hs60 K61 hK61
  replace hF62 : rounds (fun k_ c_ s_ => opack_R27 tx_ k_ c_ s_) (fun s_ => opack_D27 s_) (((tx_.size + 7) / 8) - k21) k21 q25 = some r := hF62
  rw [rounds_at hk57] at hF62
  obtain ⟨c22, hc22⟩ : ∃ c_, c_ = rounds (fun k_ c_ s_ => opack_R27 tx_ k_ c_ s_) (fun s_ => opack_D27 s_) (((tx_.size + 7) / 8) - (k21 + 1)) (k21 + 1) := ⟨_, rfl⟩
  rw [← hc22] at hF62
  have hm : opack_R27 tx_ k21 c22 q25 = some r := hF62
  clear hF62
  unfold opack_R27 at hm
  refine W.region ?_
  refine zE 1 ?_
  refine hK61 _ _ hs60 (fun w63 hs64 => ?_)
  refine W.block ?_
  refine W.sr fun K65 hK65 => ?_
  refine zN [(.int .u64 0)] 25 hs64 fun b68 w66 hs67 => ?_
  refine ops_store (off := 0) (cs := [(.int .u64 0)]) (vs := [(.int .u64 0)]) hs67 (by kernel_rfl) (by simp) rfl (fun w69 hs70 => ?_)
  have hs71 : St B w58 lf59 w69 [blk b68 (.cells [(.int .u64 0)].toArray 25 (0, 0)), blk l28 (.loop { rc29 with state := .busy }), blk b7 (.cells C9 5 (C9.size, C9.size + 1)), kU64.row m23 m24 q25, blk b4 (.cells [(.slice m23 q25.length m24)].toArray 27 (0, 0))] := hs70
  refine zD (hK65 _ _ ?_)
  refine W.seq_join (fun s_ w_ => ∃ (p72 : Int), (∃ us, s_ = slotsD 25 [(2, (.pointer (some ⟨b4, 0, none⟩))), (4, (.pointer (some ⟨b68, 0, none⟩)))] us (some l28) []) ∧ St B w58 lf59 w_ [kU64.row m23 m24 q25, blk b4 (.cells [(.slice m23 q25.length m24)].toArray 27 (0, 0)), blk b68 (.cells [(.int .u64 p72)].toArray 25 (0, 0)), blk l28 (.loop { rc29 with state := .busy }), blk b7 (.cells C9 5 (C9.size, C9.size + 1))] ∧ opack_J3 c22 q25 p72 = some r) ?_ ?_
  ·
   rintro _ w73 ⟨p72, ⟨us, rfl⟩, hs74, hm⟩
   unfold opack_J3 at hm
   refine W.region ?_
   refine zL ⟨b4, 0, none⟩ (.slice m23 q25.length m24) (hs74.cellAt 1 rfl rfl) ?_
   refine zL ⟨b68, 0, none⟩ (.int .u64 p72) (hs74.cellAt 2 rfl rfl) ?_
   refine ops_new (fun b => .slice (some ⟨b, 0, none⟩) 1 1) (.cells [(.int .u64 p72)].toArray 25 (0, 0)) hs74 (by kernel_rfl) (fun b77 w75 hs76 => ?_)
   have hs78 := St.f1 hs76
   obtain ⟨h83, hm⟩ := need_some hm
   refine ops_appendK kU64 (bytes := 8) (a' := (some ⟨b77, 0, none⟩)) (c' := 1) (l := q25) (m := [p72]) hs78 (by kernel_rfl) (by simp) (cells_blk (hs78.heapAt 1 rfl)) (by unfold maxLen; (try simp only [List.length_cons, List.length_nil]); omega) (by (try simp only [List.length_cons, List.length_nil]); omega) (fun a79 c80 w81 hs82 => ?_)
   have hs86 := St.f2 hs82
   refine ops_store (off := 0) (cs := [(.slice m23 q25.length m24)]) (vs := [(.slice a79 ((q25 ++ [p72]).length) c80)]) hs86 (by kernel_rfl) (by simp) rfl (fun w84 hs85 => ?_)
   have hs87 : St B w58 lf59 w84 [blk b4 (.cells [(.slice a79 ((q25 ++ [p72]).length) c80)].toArray 27 (0, 0)), kU64.row a79 c80 (q25 ++ [p72]), blk b77 (.cells [(.int .u64 p72)].toArray 25 (0, 0)), blk b68 (.cells [(.int .u64 p72)].toArray 25 (0, 0)), blk l28 (.loop { rc29 with state := .busy }), blk b7 (.cells C9 5 (C9.size, C9.size + 1))] := hs85
   refine zD ?_
   refine normal_block ?_
   have hs88 := St.f1 hs87
   have hs89 := St.f5 hs88
   have hs90 := St.f5 hs89
   have hs91 := St.tk4 hs90
   rw [hc22] at hm
   exact ⟨((q25 ++ [p72]), a79, c80), hm, hs91⟩
  ·
   refine W.sr fun K92 hK92 => ?_
   refine zR 1 ?_
   refine ops_call0 hs71 (by kernel_rfl) (back_spec (ba := ((some ⟨b7, 0, none⟩ : Option Addr).map (·.add (8 * k21 * 1)))) (bn := (partN tx_.size k21)) (bc := (partN tx_.size k21)) B _) ?_
   rintro _ _ w94 ⟨b93, rfl, rfl⟩ hs95
   have hs96 := St.ap1 hs95
   refine zD (hK92 _ _ ?_)
   refine W.block ?_
   have hp97 := part_pos (n := tx_.size) (k := k21) (by omega)
   refine W.normD (n := 25) (r := some l28) (d := []) (l := [(2, (.pointer (some ⟨b4, 0, none⟩))), (4, (.pointer (some ⟨b68, 0, none⟩))), (12, (.func (.func 80) #[] #[(.pointer (some ⟨b93, 0, none⟩))]))]) (by kernel_rfl) (fun us98 => ?_)
   have hs101 := St.f2 hs96
   have hs102 := St.f5 hs101
   have hs103 := St.f5 hs102
   have hs104 := St.f4 hs103
   have hs105 := St.f4 hs104
   have hs106 := St.f5 hs105
   have hs113 := St.f5 hs106
   have hs114 := St.f5 hs113
   have hs115 := St.f5 hs114
   have hs116 := St.f5 hs115
   have hs117 := St.f5 hs116
   have hs118 := St.f5 hs117
   have hF119 : rounds (fun k_ c_ s_ => opack_R108 tx_ k21 k_ c_ s_) (fun s_ => opack_D108 c22 q25 s_) ((partN tx_.size k21) - 0) 0 0 = some r := by rw [Nat.sub_zero]; exact hm
   clear hm
   refine W.roundsIn (G := Int) (GZ := Unit) (gf := 80) (lb := #[(.pointer (some ⟨b93, 0, none⟩))]) (partN tx_.size k21) (fun k_ p107 => rounds (fun k_ c_ s_ => opack_R108 tx_ k21 k_ c_ s_) (fun s_ => opack_D108 c22 q25 s_) ((partN tx_.size k21) - k_) k_ p107 = some r) (fun p107 => [blk b68 (.cells [(.int .u64 p107)].toArray 25 (0, 0)), kU64.row m23 m24 q25, blk b4 (.cells [(.slice m23 q25.length m24)].toArray 27 (0, 0))]) .ret (fun (_ : Unit) => False) (fun _ => []) [blk b7 (.cells C9 5 (C9.size, C9.size + 1)), blk b93 (.cells [(.slice ((some ⟨b7, 0, none⟩ : Option Addr).map (·.add (8 * k21 * 1))) (partN tx_.size k21) (partN tx_.size k21))].toArray 73 (0, 0))] (fun k_ => #[(.int .i64 (((partN tx_.size k21) : Int) - 1 - (k_ : Int))), (.int .u8 (((strNums tx_).drop (8 * k21)).getD ((partN tx_.size k21) - 1 - k_) 0))]) (fun k_ l_ => slotsD 25 ((14, (.int .u8 (((strNums tx_).drop (8 * k21)).getD ((partN tx_.size k21) - 1 - k_) 0))) :: (13, (.int .i64 (((partN tx_.size k21) : Int) - 1 - (k_ : Int)))) :: [(2, (.pointer (some ⟨b4, 0, none⟩))), (4, (.pointer (some ⟨b68, 0, none⟩))), (12, (.func (.func 80) #[] #[(.pointer (some ⟨b93, 0, none⟩))]))]) us98 (some l_) []) 0 hF119 hs118 rfl (by kernel_rfl) (fun _ _ => by kernel_rfl) (fun _ => rfl) (fun a_ k_ l_ h1_ h2_ => ⟨rel_round2 (n := 25) (by decide) (by decide) h1_ h2_, rfl⟩) (fun l_ => #[.func (.yield l_) #[] #[], (.pointer (some ⟨b93, 0, none⟩))]) (fun _ => rfl) (fun l_ w_ Y_ Z_ hy_ => back1_spec (yl := l_) (q := k21) (Y := Y_) (Z := Z_) (hm := hp97.2.1) (hC := drop_bytes hC12 (by omega)) (hy := fun k_ h_ w_ => hy_ k_ h_ w_) _ w_) ?_ ?_ ?_
   rotate_left
   ·
    rintro  w120 p107 hF122 hs121
    replace hF122 : rounds (fun k_ c_ s_ => opack_R108 tx_ k21 k_ c_ s_) (fun s_ => opack_D108 c22 q25 s_) ((partN tx_.size k21) - (partN tx_.size k21)) (partN tx_.size k21) p107 = some r := hF122
    rw [rounds_end] at hF122
    have hm : opack_D108 c22 q25 p107 = some r := hF122
    clear hF122
    unfold opack_D108 at hm
    have hs123 : St B w58 lf59 w120 [blk b7 (.cells C9 5 (C9.size, C9.size + 1)), blk b93 (.cells [(.slice ((some ⟨b7, 0, none⟩ : Option Addr).map (·.add (8 * k21 * 1))) (partN tx_.size k21) (partN tx_.size k21))].toArray 73 (0, 0)), blk b68 (.cells [(.int .u64 p107)].toArray 25 (0, 0)), kU64.row m23 m24 q25, blk b4 (.cells [(.slice m23 q25.length m24)].toArray 27 (0, 0)), blk l28 (.loop { rc29 with state := .busy })] := hs121
    refine normal_block ?_
    have hs124 := St.f5 hs123
    have hs125 := St.f3 hs124
    have hs126 := St.f5 hs125
    have hs127 := St.f5 hs126
    have hs128 := St.tk5 hs127
    exact ⟨p107, slotsD_intro _ (by kernel_rfl), hs128, hm⟩
   ·
    rintro _ _ h_ _
    exact h_.elim
   ·
    rintro k99 hk129 rc110 l109 w130 p107 hF134 lf131 hs132 K133 hK133
    replace hF134 : rounds (fun k_ c_ s_ => opack_R108 tx_ k21 k_ c_ s_) (fun s_ => opack_D108 c22 q25 s_) ((partN tx_.size k21) - k99) k99 p107 = some r := hF134
    rw [rounds_at hk129] at hF134
    obtain ⟨c100, hc100⟩ : ∃ c_, c_ = rounds (fun k_ c_ s_ => opack_R108 tx_ k21 k_ c_ s_) (fun s_ => opack_D108 c22 q25 s_) ((partN tx_.size k21) - (k99 + 1)) (k99 + 1) := ⟨_, rfl⟩
    rw [← hc100] at hF134
    have hm : opack_R108 tx_ k21 k99 c100 p107 = some r := hF134
    clear hF134
    unfold opack_R108 at hm
    refine W.region ?_
    refine zR 1 ?_
    obtain ⟨r135, h136, hm⟩ := bind_some hm
    replace h136 := some_inj h136
    refine ops_set 6 (v := .int .u8 r135) (Eq.trans (by kernel_rfl) (congrArg (Value.int .u8) h136)) ?_
    refine zD ?_
    refine hK133 _ _ hs132 (fun w137 hs138 => ?_)
    refine W.block ?_
    refine W.region ?_
    refine zL ⟨b68, 0, none⟩ (.int .u64 p107) (hs138.cellAt 1 rfl rfl) ?_
    refine zR 2 ?_
    obtain ⟨h139, hm⟩ := need_some hm
    refine zI _ (wrap_u64 h139.1 (Int.lt_of_le_of_lt h139.2 (by decide))) ?_
    refine zR 1 ?_
    have hs142 := St.f1 hs138
    refine ops_store (off := 0) (cs := [(.int .u64 p107)]) (vs := [(.int .u64 (bits .or .u64 (shlK .u64 p107 8) r135))]) hs142 (by kernel_rfl) (by simp) rfl (fun w140 hs141 => ?_)
    have hs143 : St B w130 lf131 w140 [blk b68 (.cells [(.int .u64 (bits .or .u64 (shlK .u64 p107 8) r135))].toArray 25 (0, 0)), blk l109 (.loop { rc110 with state := .busy }), kU64.row m23 m24 q25, blk b4 (.cells [(.slice m23 q25.length m24)].toArray 27 (0, 0))] := hs141
    refine zD ?_
    refine normal_block ?_
    have hs144 := St.f3 hs143
    have hs145 := St.f3 hs144
    have hs146 := St.f2 hs145
    have hs147 := St.f3 hs146
    rw [hc100] at hm
    exact ⟨(bits .or .u64 (shlK .u64 p107 8) r135), hm, hs147⟩

end Go.Proofs.YtmmclabkkigiaaaGreatDoor

set_option linter.unusedVariables false
set_option maxRecDepth 20000
set_option maxHeartbeats 2000000
namespace Go.Proofs.YtmmclabkkigiaaaGreatDoor
open Go Go.RowKit
set_option linter.unusedSimpArgs false
set_option linter.unusedVariables false

def ebegin_M (tx_ : ByteArray) : Option (Int) :=
 (emay_M tx_).bind fun r4 =>
if r4 = true then ((opack_M tx_).bind fun r13 =>
(sumof_M r13).bind fun r18 =>
need (-9223372036854775808 ≤ (r18.tmod 12) ∧ (r18.tmod 12) ≤ 9223372036854775807) <|
some (r18.tmod 12)) else (some 0)

theorem ebegin_walk {tx_ : ByteArray}  {r : Int} (B : Nat) (w : World) (hm : ebegin_M tx_ = some r) : Spec Tryz.prog 10 #[(.string tx_)] B w [] (fun v H' => v = .int .i64 r ∧ H' = []) := by
 refine spec_Q Tryz.func10 rfl fun hs => ?_
 unfold ebegin_M at hm
 refine W.sr fun K1 hK1 => ?_
 refine zE 1 (hK1 _ _ ?_)
 refine W.seq fun K2 hK2 => ?_
 refine W.sr fun K3 hK3 => ?_
 refine zR 1 ?_
 obtain ⟨r4, h5, hm⟩ := bind_some hm
 refine zC00 hs (emay_walk (tx_ := tx_) (hm := h5) B _) fun w6 hs8 => ?_
 refine zE 1 (hK3 _ _ ?_)
 refine W.cond (!r4) (by kernel_rfl) (fun h9 => ?_) (fun h9 => ?_)
 rotate_left
 ·
  have h9p : r4 = true := (bnot_false h9)
  replace hm := ite_yes hm h9p
  refine W.skip ?_
  refine hK2 _ _ ?_
  refine W.sr fun K10 hK10 => ?_
  refine zR 1 ?_
  obtain ⟨r13, h14, hm⟩ := bind_some hm
  refine ops_call0 hs8 (by kernel_rfl) (opack_walk (hm := h14) B _) ?_
  rintro _ _ w15 ⟨a11, c12, rfl, rfl⟩ hs16
  have hs17 := St.ap1 hs16
  obtain ⟨r18, h19, hm⟩ := bind_some hm
  refine zC11 hs17 (sumof_walk (wa := a11) (wc := c12) (ws := r13) (hm := h19) B _) fun w20 hs22 => ?_
  refine zR 1 ?_
  obtain ⟨h23, hm⟩ := need_some hm
  refine zI _ (wrap_i64 h23.1 h23.2) ?_
  refine zE 1 (hK10 _ _ ?_)
  refine W.ret ?_
  obtain rfl := some_inj hm
  have hs24 := St.tk0 hs22
  refine ret_of (.int .i64 (r18.tmod 12)) (by kernel_rfl) ⟨_, ⟨rfl, rfl⟩, hs24⟩
 ·
  have h9p : ¬ (r4 = true) := ne_true_of_eq_false (bnot_true h9)
  replace hm := ite_no hm h9p
  refine W.sr fun K25 hK25 => ?_
  refine zE 1 (hK25 _ _ ?_)
  refine W.ret (ret_seq ?_)
  obtain rfl := some_inj hm
  refine ret_of (.int .i64 0) (by kernel_rfl) ⟨_, ⟨rfl, rfl⟩, hs8⟩

end Go.Proofs.YtmmclabkkigiaaaGreatDoor

set_option maxRecDepth 20000
namespace Go.Proofs.YtmmclabkkigiaaaGreatDoor
open Go Go.RowKit
set_option linter.unusedSimpArgs false
set_option linter.unusedVariables false

theorem within_spec {n_ f_ t_ : Int} (B : Nat) (w : World) : Spec Tryz.prog 106 #[(.int .i64 n_), (.int .i64 f_), (.int .i64 t_)] B w [] (fun v H' => v = .bool (decide (f_ ≤ n_ ∧ n_ ≤ t_)) ∧ H' = []) := by
 refine spec_Q Tryz.func106 rfl fun hs => ?_
 refine W.sr fun K1 hK1 => ?_
 refine zE 1 (hK1 _ _ ?_)
 refine W.sr fun K2 hK2 => ?_
 refine zR 4 ?_
 rcases Bool.eq_false_or_eq_true (decide (n_ ≥ f_)) with h3 | h3
 ·
  have h3p := of_decide_eq_true h3
  refine zS 10 h3 ?_
  refine zS 9 h3 ?_
  refine zE 5 (hK2 _ _ ?_)
  refine W.ret ?_
  refine ret_of (.bool (decide (n_ ≤ t_))) (by kernel_rfl) ⟨_, ⟨congrArg Value.bool (decide_eq_decide.2 (by omega)), rfl⟩, hs⟩
 ·
  have h3p := of_decide_eq_false h3
  refine zS 10 h3 ?_
  refine zS 9 h3 ?_
  refine zE 5 (hK2 _ _ ?_)
  refine W.ret ?_
  refine ret_of (.bool false) (by kernel_rfl) ⟨_, ⟨congrArg Value.bool (decide_eq_false (by omega)).symm, rfl⟩, hs⟩

theorem may_spec {gw gi gb : Int} (B : Nat) (w : World) : Spec Tryz.prog 75 #[(.agg #[(.int .i64 gw), (.int .i64 gi), (.int .i64 gb)])] B w [] (fun v H' => v = .bool (decide (May gw gi gb)) ∧ H' = []) := by
 refine spec_Q Tryz.func75 rfl fun hs => ?_
 refine W.sr fun K1 hK1 => ?_
 refine zN [(.int .i64 gw), (.int .i64 gi), (.int .i64 gb)] 31 hs fun b4 w2 hs3 => ?_
 refine zE 1 (hK1 _ _ ?_)
 refine W.sr fun K5 hK5 => ?_
 refine zR 1 ?_
 refine zL ⟨b4, 0, none⟩ (.int .i64 gw) (hs3.cellAt 0 rfl rfl) ?_
 refine zC00 hs3 (within_spec (n_ := gw) (f_ := 1) (t_ := 4) B _) fun w6 hs8 => ?_
 refine zR 1 ?_
 rcases Bool.eq_false_or_eq_true (decide (1 ≤ gw ∧ gw ≤ 4)) with h9 | h9
 ·
  have h9p := of_decide_eq_true h9
  refine zS 6 h9 ?_
  refine zS 5 h9 ?_
  refine zR 1 ?_
  refine zL ⟨b4, 1, none⟩ (.int .i64 gi) (hs8.cellAt 0 rfl rfl) ?_
  refine zC00 hs8 (within_spec (n_ := gi) (f_ := 2) (t_ := 64) B _) fun w10 hs12 => ?_
  refine zR 2 ?_
  rcases Bool.eq_false_or_eq_true (decide (2 ≤ gi ∧ gi ≤ 64)) with h13 | h13
  ·
   have h13p := of_decide_eq_true h13
   refine zS 11 h13 ?_
   refine zS 9 h13 ?_
   refine zS 10 h13 ?_
   refine zR 1 ?_
   refine zL ⟨b4, 2, none⟩ (.int .i64 gb) (hs12.cellAt 0 rfl rfl) ?_
   refine zC00 hs12 (within_spec (n_ := gb) (f_ := 2) (t_ := 512) B _) fun w14 hs16 => ?_
   refine zE 2 (hK5 _ _ ?_)
   refine W.ret ?_
   have hs17 := St.tk0 hs16
   refine ret_of (.bool (decide (2 ≤ gb ∧ gb ≤ 512))) (by kernel_rfl) ⟨_, ⟨congrArg Value.bool (decide_eq_decide.2 (by unfold May; omega)), rfl⟩, hs17⟩
  ·
   have h13p := of_decide_eq_false h13
   refine zS 11 h13 ?_
   refine zS 9 h13 ?_
   refine zS 10 h13 ?_
   refine zE 5 (hK5 _ _ ?_)
   refine W.ret ?_
   have hs18 := St.tk0 hs12
   refine ret_of (.bool false) (by kernel_rfl) ⟨_, ⟨congrArg Value.bool (decide_eq_false (by unfold May; omega)).symm, rfl⟩, hs18⟩
 ·
  have h9p := of_decide_eq_false h9
  refine zS 6 h9 ?_
  refine zS 5 h9 ?_
  refine zE 10 (hK5 _ _ ?_)
  refine W.ret ?_
  have hs19 := St.tk0 hs8
  refine ret_of (.bool false) (by kernel_rfl) ⟨_, ⟨congrArg Value.bool (decide_eq_false (by unfold May; omega)).symm, rfl⟩, hs19⟩

theorem rmay_spec {gw gi gb : Int} (B : Nat) (w : World) : Spec Tryz.prog 49 #[(.agg #[(.int .i64 gw), (.int .i64 gi), (.int .i64 gb)])] B w [] (fun v H' => v = .bool (decide (May gw gi gb)) ∧ H' = []) := by
 refine spec_Q Tryz.func49 rfl fun hs => ?_
 refine W.sr fun K1 hK1 => ?_
 refine zN [(.int .i64 gw), (.int .i64 gi), (.int .i64 gb)] 42 hs fun b4 w2 hs3 => ?_
 refine zE 1 (hK1 _ _ ?_)
 refine W.sr fun K5 hK5 => ?_
 refine zR 1 ?_
 refine zL ⟨b4, 0, none⟩ (.int .i64 gw) (hs3.cellAt 0 rfl rfl) ?_
 refine zR 2 ?_
 rcases Bool.eq_false_or_eq_true (decide (gw ≥ 1)) with h6 | h6
 ·
  have h6p := of_decide_eq_true h6
  refine zS 6 h6 ?_
  refine zS 5 h6 ?_
  refine zR 1 ?_
  refine zL ⟨b4, 0, none⟩ (.int .i64 gw) (hs3.cellAt 0 rfl rfl) ?_
  refine zR 3 ?_
  rcases Bool.eq_false_or_eq_true (decide (gw ≤ 4)) with h7 | h7
  ·
   have h7p := of_decide_eq_true h7
   refine zS 11 h7 ?_
   refine zS 9 h7 ?_
   refine zS 10 h7 ?_
   refine zR 1 ?_
   refine zL ⟨b4, 1, none⟩ (.int .i64 gi) (hs3.cellAt 0 rfl rfl) ?_
   refine zR 3 ?_
   rcases Bool.eq_false_or_eq_true (decide (gi ≥ 2)) with h8 | h8
   ·
    have h8p := of_decide_eq_true h8
    refine zS 16 h8 ?_
    refine zS 14 h8 ?_
    refine zS 15 h8 ?_
    refine zR 1 ?_
    refine zL ⟨b4, 1, none⟩ (.int .i64 gi) (hs3.cellAt 0 rfl rfl) ?_
    refine zR 3 ?_
    rcases Bool.eq_false_or_eq_true (decide (gi ≤ 64)) with h9 | h9
    ·
     have h9p := of_decide_eq_true h9
     refine zS 21 h9 ?_
     refine zS 19 h9 ?_
     refine zS 20 h9 ?_
     refine zR 1 ?_
     refine zL ⟨b4, 2, none⟩ (.int .i64 gb) (hs3.cellAt 0 rfl rfl) ?_
     refine zR 3 ?_
     rcases Bool.eq_false_or_eq_true (decide (gb ≥ 2)) with h10 | h10
     ·
      have h10p := of_decide_eq_true h10
      refine zS 26 h10 ?_
      refine zS 24 h10 ?_
      refine zS 25 h10 ?_
      refine zR 1 ?_
      refine zL ⟨b4, 2, none⟩ (.int .i64 gb) (hs3.cellAt 0 rfl rfl) ?_
      refine zE 3 (hK5 _ _ ?_)
      refine W.ret ?_
      have hs11 := St.tk0 hs3
      refine ret_of (.bool (decide (gb ≤ 512))) (by kernel_rfl) ⟨_, ⟨congrArg Value.bool (decide_eq_decide.2 (by unfold May; omega)), rfl⟩, hs11⟩
     ·
      have h10p := of_decide_eq_false h10
      refine zS 26 h10 ?_
      refine zS 24 h10 ?_
      refine zS 25 h10 ?_
      refine zE 5 (hK5 _ _ ?_)
      refine W.ret ?_
      have hs12 := St.tk0 hs3
      refine ret_of (.bool false) (by kernel_rfl) ⟨_, ⟨congrArg Value.bool (decide_eq_false (by unfold May; omega)).symm, rfl⟩, hs12⟩
    ·
     have h9p := of_decide_eq_false h9
     refine zS 21 h9 ?_
     refine zS 19 h9 ?_
     refine zS 20 h9 ?_
     refine zE 10 (hK5 _ _ ?_)
     refine W.ret ?_
     have hs13 := St.tk0 hs3
     refine ret_of (.bool false) (by kernel_rfl) ⟨_, ⟨congrArg Value.bool (decide_eq_false (by unfold May; omega)).symm, rfl⟩, hs13⟩
   ·
    have h8p := of_decide_eq_false h8
    refine zS 16 h8 ?_
    refine zS 14 h8 ?_
    refine zS 15 h8 ?_
    refine zE 15 (hK5 _ _ ?_)
    refine W.ret ?_
    have hs14 := St.tk0 hs3
    refine ret_of (.bool false) (by kernel_rfl) ⟨_, ⟨congrArg Value.bool (decide_eq_false (by unfold May; omega)).symm, rfl⟩, hs14⟩
  ·
   have h7p := of_decide_eq_false h7
   refine zS 11 h7 ?_
   refine zS 9 h7 ?_
   refine zS 10 h7 ?_
   refine zE 20 (hK5 _ _ ?_)
   refine W.ret ?_
   have hs15 := St.tk0 hs3
   refine ret_of (.bool false) (by kernel_rfl) ⟨_, ⟨congrArg Value.bool (decide_eq_false (by unfold May; omega)).symm, rfl⟩, hs15⟩
 ·
  have h6p := of_decide_eq_false h6
  refine zS 6 h6 ?_
  refine zS 5 h6 ?_
  refine zE 25 (hK5 _ _ ?_)
  refine W.ret ?_
  have hs16 := St.tk0 hs3
  refine ret_of (.bool false) (by kernel_rfl) ⟨_, ⟨congrArg Value.bool (decide_eq_false (by unfold May; omega)).symm, rfl⟩, hs16⟩

end Go.Proofs.YtmmclabkkigiaaaGreatDoor
