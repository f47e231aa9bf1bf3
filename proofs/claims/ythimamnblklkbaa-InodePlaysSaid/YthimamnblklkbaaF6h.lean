/- Contracts of layers 6 and 7, by a program. -/
import Derived.Test.YthimamnblklkbaaF6g
namespace Go.Proofs.Ythimamnblklkbaa
open Go Go.RowKit
set_option linter.unusedSimpArgs false
set_option linter.unusedVariables false

set_option maxRecDepth 20000 in
set_option maxHeartbeats 2000000 in
theorem ig_spec {b : Nat} {img : List Int} {l : List (Int × Int)} {gw gi gb n_ : Int} (B : Nat) (w : World) (hv : ViewAt (ptr b) img l w) : Spec Try.prog 36 #[(.pointer (some ⟨b, 0, none⟩)), (.agg #[(.int .i64 gw), (.int .i64 gi), (.int .i64 gb)]), (.int .i64 n_)] B w [] (fun v H' => v = (.tuple #[(.agg #[(.int .u64 ((igetM img l gw gi gb n_).1.k)), (.int .u64 ((igetM img l gw gi gb n_).1.l)), (.int .u64 ((igetM img l gw gi gb n_).1.o)), (.int .u64 ((igetM img l gw gi gb n_).1.s)), (.int .u64 ((igetM img l gw gi gb n_).1.a)), (.int .u64 ((igetM img l gw gi gb n_).1.b)), (.int .u64 ((igetM img l gw gi gb n_).1.c)), (.int .u64 ((igetM img l gw gi gb n_).1.d)), (.int .u64 ((igetM img l gw gi gb n_).1.e)), (.int .u64 ((igetM img l gw gi gb n_).1.m))]), (.int .i64 ((igetM img l gw gi gb n_).2))]) ∧ H' = []) := by
  refine spec_Q Try.func36 rfl fun hs => ?_
  have hrg := ifind_range (img.length : Int) gw gi gb n_
  refine W.seq fun K1 hK1 => ?_
  refine W.region ?_
  refine ops_new (fun b => .pointer (some ⟨b, 0, none⟩)) (.cells [(.int .i64 gw), (.int .i64 gi), (.int .i64 gb)].toArray 56 (0, 0)) hs (by kernel_rfl) (fun b4 w2 hs3 => ?_)
  refine ops_new (fun b => .pointer (some ⟨b, 0, none⟩)) (.cells [(.int .u64 0), (.int .u64 0), (.int .u64 0), (.int .u64 0), (.int .u64 0), (.int .u64 0), (.int .u64 0), (.int .u64 0), (.int .u64 0), (.int .u64 0)].toArray 54 (0, 0)) hs3 (by kernel_rfl) (fun b7 w5 hs6 => ?_)
  refine ops_run 1 (by kernel_rfl) ?_
  refine ops_done (by kernel_rfl) ?_
  refine hK1 _ _ ?_
  clear hK1
  refine W.seq fun K8 hK8 => ?_
  refine W.region ?_
  refine ops_run 1 (by kernel_rfl) ?_
  refine ops_R (runs_loadAgg (ad := ⟨b4, 0, none⟩) (cs := [(.int .i64 gw), (.int .i64 gi), (.int .i64 gb)]) (by kernel_rfl) (cells_sub (hs6.heapAt 1 rfl) rfl)) ?_
  refine ops_run 1 (by kernel_rfl) ?_
  refine ops_call (pre := []) hs6 (by kernel_rfl) (ifind_spec (gw := gw) (gi := gi) (gb := gb) (n_ := n_) (hv := (viewAt_old hs6 hv)) B _) ?_
  rintro _ _ w9 ⟨rfl, rfl⟩ hs10
  have hs11 : St B w [] w9 [blk b7 (.cells [(.int .u64 0), (.int .u64 0), (.int .u64 0), (.int .u64 0), (.int .u64 0), (.int .u64 0), (.int .u64 0), (.int .u64 0), (.int .u64 0), (.int .u64 0)].toArray 54 (0, 0)), blk b4 (.cells [(.int .i64 gw), (.int .i64 gi), (.int .i64 gb)].toArray 56 (0, 0))] := hs10
  refine ops_run 5 (by kernel_rfl) ?_
  refine ops_done (by kernel_rfl) ?_
  refine hK8 _ _ ?_
  clear hK8
  refine W.seq fun K12 hK12 => ?_
  refine W.seq fun K13 hK13 => ?_
  refine W.region ?_
  refine ops_run 2 (by kernel_rfl) ?_
  refine ops_done (by kernel_rfl) ?_
  refine hK13 _ _ ?_
  clear hK13
  refine W.cond (!decide ((ifind (img.length : Int) gw gi gb n_).2 = 0)) (by kernel_rfl) (fun h14 => ?_) (fun h14 => ?_)
  ·
    have h14p : ¬ ((ifind (img.length : Int) gw gi gb n_).2 = 0) := of_decide_eq_false (bnot_true h14)
    refine W.seq fun K15 hK15 => ?_
    refine W.region ?_
    refine ops_run 2 (by kernel_rfl) ?_
    refine ops_store (off := 0) (cs := [(.int .u64 0), (.int .u64 0), (.int .u64 0), (.int .u64 0), (.int .u64 0), (.int .u64 0), (.int .u64 0), (.int .u64 0), (.int .u64 0), (.int .u64 0)]) (vs := [(.int .u64 0), (.int .u64 0), (.int .u64 0), (.int .u64 0), (.int .u64 0), (.int .u64 0), (.int .u64 0), (.int .u64 0), (.int .u64 0), (.int .u64 0)]) hs11 (by kernel_rfl) (by simp) rfl (fun w16 hs17 => ?_)
    have hs18 : St B w [] w16 [blk b7 (.cells [(.int .u64 0), (.int .u64 0), (.int .u64 0), (.int .u64 0), (.int .u64 0), (.int .u64 0), (.int .u64 0), (.int .u64 0), (.int .u64 0), (.int .u64 0)].toArray 54 (0, 0)), blk b4 (.cells [(.int .i64 gw), (.int .i64 gi), (.int .i64 gb)].toArray 56 (0, 0))] := hs17
    refine ops_run 1 (by kernel_rfl) ?_
    refine ops_done (by kernel_rfl) ?_
    refine hK15 _ _ ?_
    clear hK15
    refine W.ret (ret_seq ?_)
    have e_ : igetM img l gw gi gb n_ = (Nd.zero, (ifind (img.length : Int) gw gi gb n_).2) := by first | (exfalso; omega) | (simp only [igetM]; exact if_neg (by assumption))
    have hs19 : St B w [] w16 [] := St.take (H := []) hs18
    refine ret_of (.tuple #[(.agg #[(.int .u64 0), (.int .u64 0), (.int .u64 0), (.int .u64 0), (.int .u64 0), (.int .u64 0), (.int .u64 0), (.int .u64 0), (.int .u64 0), (.int .u64 0)]), (.int .i64 ((ifind (img.length : Int) gw gi gb n_).2))]) (results_cell2 (ad := ⟨b7, 0, none⟩) (cs := [(.int .u64 0), (.int .u64 0), (.int .u64 0), (.int .u64 0), (.int .u64 0), (.int .u64 0), (.int .u64 0), (.int .u64 0), (.int .u64 0), (.int .u64 0)]) rfl (by kernel_rfl) (by kernel_rfl) (by kernel_rfl) (cells_sub (hs18.heapAt 0 rfl) rfl)) ⟨_, ⟨by rw [e_]; try rfl, rfl⟩, hs19⟩
  ·
    have h14p : (ifind (img.length : Int) gw gi gb n_).2 = 0 := of_decide_eq_true (bnot_false h14)
    refine W.skip ?_
    refine hK12 _ _ ?_
    clear hK12
    refine W.seq fun K20 hK20 => ?_
    refine W.region ?_
    refine ops_new (fun b => .pointer (some ⟨b, 0, none⟩)) (.cells [(.int .u64 0), (.int .u64 0), (.int .u64 0), (.int .u64 0), (.int .u64 0), (.int .u64 0), (.int .u64 0), (.int .u64 0), (.int .u64 0), (.int .u64 0)].toArray 103 (0, 0)) hs11 (by kernel_rfl) (fun b23 w21 hs22 => ?_)
    refine ops_done (by kernel_rfl) ?_
    refine hK20 _ _ ?_
    clear hK20
    refine W.seq fun K24 hK24 => ?_
    refine W.seq fun K25 hK25 => ?_
    refine W.region ?_
    refine ops_run 1 (by kernel_rfl) ?_
    refine ops_done (by kernel_rfl) ?_
    refine hK25 _ _ ?_
    clear hK25
    refine W.block ?_
    refine W.loop_start ?_
    refine loopAt_round ?_
    refine W.seq fun K26 hK26 => ?_
    refine W.region ?_
    refine ops_run 1 (by kernel_rfl) ?_
    refine ops_done (by kernel_rfl) ?_
    refine hK26 _ _ ?_
    clear hK26
    refine W.seq fun K27 hK27 => ?_
    refine W.cond_true true (by kernel_rfl) rfl ?_
    refine W.skip ?_
    refine hK27 _ _ ?_
    clear hK27
    refine W.seq fun K28 hK28 => ?_
    refine W.block ?_
    refine W.seq fun K29 hK29 => ?_
    refine W.region ?_
    refine ops_run 2 (by kernel_rfl) ?_
    refine ops_done (by kernel_rfl) ?_
    refine hK29 _ _ ?_
    clear hK29
    refine W.region ?_
    refine ops_run 4 (by kernel_rfl) ?_
    refine ops_val (v := .int .i64 (IntKind.i64.wrap ((ifind (img.length : Int) gw gi gb n_).1 + 0))) (v' := .int .i64 ((ifind (img.length : Int) gw gi gb n_).1 + 0)) (by kernel_rfl) (congrArg (Value.int .i64) (wrap_i64 (by omega) (by omega))) ?_
    refine ops_call (pre := []) hs22 (by kernel_rfl) (get_spec (at_ := ((ifind (img.length : Int) gw gi gb n_).1 + 0)) (hv := (viewAt_old hs22 hv)) B _) ?_
    rintro _ _ w30 ⟨rfl, rfl⟩ hs31
    have hs32 : St B w [] w30 [blk b23 (.cells [(.int .u64 0), (.int .u64 0), (.int .u64 0), (.int .u64 0), (.int .u64 0), (.int .u64 0), (.int .u64 0), (.int .u64 0), (.int .u64 0), (.int .u64 0)].toArray 103 (0, 0)), blk b7 (.cells [(.int .u64 0), (.int .u64 0), (.int .u64 0), (.int .u64 0), (.int .u64 0), (.int .u64 0), (.int .u64 0), (.int .u64 0), (.int .u64 0), (.int .u64 0)].toArray 54 (0, 0)), blk b4 (.cells [(.int .i64 gw), (.int .i64 gi), (.int .i64 gb)].toArray 56 (0, 0))] := hs31
    refine ops_run 1 (by kernel_rfl) ?_
    refine ops_store (off := 0) (cs := [(.int .u64 0), (.int .u64 0), (.int .u64 0), (.int .u64 0), (.int .u64 0), (.int .u64 0), (.int .u64 0), (.int .u64 0), (.int .u64 0), (.int .u64 0)]) (vs := [(.int .u64 (vget img l ((ifind (img.length : Int) gw gi gb n_).1 + 0)))]) hs32 (by kernel_rfl) (by simp) rfl (fun w33 hs34 => ?_)
    have hs35 : St B w [] w33 [blk b23 (.cells [(.int .u64 (vget img l ((ifind (img.length : Int) gw gi gb n_).1 + 0))), (.int .u64 0), (.int .u64 0), (.int .u64 0), (.int .u64 0), (.int .u64 0), (.int .u64 0), (.int .u64 0), (.int .u64 0), (.int .u64 0)].toArray 103 (0, 0)), blk b7 (.cells [(.int .u64 0), (.int .u64 0), (.int .u64 0), (.int .u64 0), (.int .u64 0), (.int .u64 0), (.int .u64 0), (.int .u64 0), (.int .u64 0), (.int .u64 0)].toArray 54 (0, 0)), blk b4 (.cells [(.int .i64 gw), (.int .i64 gi), (.int .i64 gb)].toArray 56 (0, 0))] := hs34
    refine ops_done (by kernel_rfl) ?_
    refine normal_block ?_
    refine hK28 _ _ ?_
    clear hK28
    refine W.region ?_
    refine ops_run 2 (by kernel_rfl) ?_
    refine ops_done (by kernel_rfl) ?_
    refine loopAt_next ?_
    refine loopAt_round ?_
    refine W.seq fun K36 hK36 => ?_
    refine W.region ?_
    refine ops_run 1 (by kernel_rfl) ?_
    refine ops_done (by kernel_rfl) ?_
    refine hK36 _ _ ?_
    clear hK36
    refine W.seq fun K37 hK37 => ?_
    refine W.cond_true true (by kernel_rfl) rfl ?_
    refine W.skip ?_
    refine hK37 _ _ ?_
    clear hK37
    refine W.seq fun K38 hK38 => ?_
    refine W.block ?_
    refine W.seq fun K39 hK39 => ?_
    refine W.region ?_
    refine ops_run 2 (by kernel_rfl) ?_
    refine ops_done (by kernel_rfl) ?_
    refine hK39 _ _ ?_
    clear hK39
    refine W.region ?_
    refine ops_run 4 (by kernel_rfl) ?_
    refine ops_val (v := .int .i64 (IntKind.i64.wrap ((ifind (img.length : Int) gw gi gb n_).1 + 1))) (v' := .int .i64 ((ifind (img.length : Int) gw gi gb n_).1 + 1)) (by kernel_rfl) (congrArg (Value.int .i64) (wrap_i64 (by omega) (by omega))) ?_
    refine ops_call (pre := []) hs35 (by kernel_rfl) (get_spec (at_ := ((ifind (img.length : Int) gw gi gb n_).1 + 1)) (hv := (viewAt_old hs35 hv)) B _) ?_
    rintro _ _ w40 ⟨rfl, rfl⟩ hs41
    have hs42 : St B w [] w40 [blk b23 (.cells [(.int .u64 (vget img l ((ifind (img.length : Int) gw gi gb n_).1 + 0))), (.int .u64 0), (.int .u64 0), (.int .u64 0), (.int .u64 0), (.int .u64 0), (.int .u64 0), (.int .u64 0), (.int .u64 0), (.int .u64 0)].toArray 103 (0, 0)), blk b7 (.cells [(.int .u64 0), (.int .u64 0), (.int .u64 0), (.int .u64 0), (.int .u64 0), (.int .u64 0), (.int .u64 0), (.int .u64 0), (.int .u64 0), (.int .u64 0)].toArray 54 (0, 0)), blk b4 (.cells [(.int .i64 gw), (.int .i64 gi), (.int .i64 gb)].toArray 56 (0, 0))] := hs41
    refine ops_run 1 (by kernel_rfl) ?_
    refine ops_store (off := 1) (cs := [(.int .u64 (vget img l ((ifind (img.length : Int) gw gi gb n_).1 + 0))), (.int .u64 0), (.int .u64 0), (.int .u64 0), (.int .u64 0), (.int .u64 0), (.int .u64 0), (.int .u64 0), (.int .u64 0), (.int .u64 0)]) (vs := [(.int .u64 (vget img l ((ifind (img.length : Int) gw gi gb n_).1 + 1)))]) hs42 (by kernel_rfl) (by simp) rfl (fun w43 hs44 => ?_)
    have hs45 : St B w [] w43 [blk b23 (.cells [(.int .u64 (vget img l ((ifind (img.length : Int) gw gi gb n_).1 + 0))), (.int .u64 (vget img l ((ifind (img.length : Int) gw gi gb n_).1 + 1))), (.int .u64 0), (.int .u64 0), (.int .u64 0), (.int .u64 0), (.int .u64 0), (.int .u64 0), (.int .u64 0), (.int .u64 0)].toArray 103 (0, 0)), blk b7 (.cells [(.int .u64 0), (.int .u64 0), (.int .u64 0), (.int .u64 0), (.int .u64 0), (.int .u64 0), (.int .u64 0), (.int .u64 0), (.int .u64 0), (.int .u64 0)].toArray 54 (0, 0)), blk b4 (.cells [(.int .i64 gw), (.int .i64 gi), (.int .i64 gb)].toArray 56 (0, 0))] := hs44
    refine ops_done (by kernel_rfl) ?_
    refine normal_block ?_
    refine hK38 _ _ ?_
    clear hK38
    refine W.region ?_
    refine ops_run 2 (by kernel_rfl) ?_
    refine ops_done (by kernel_rfl) ?_
    refine loopAt_next ?_
    refine loopAt_round ?_
    refine W.seq fun K46 hK46 => ?_
    refine W.region ?_
    refine ops_run 1 (by kernel_rfl) ?_
    refine ops_done (by kernel_rfl) ?_
    refine hK46 _ _ ?_
    clear hK46
    refine W.seq fun K47 hK47 => ?_
    refine W.cond_true true (by kernel_rfl) rfl ?_
    refine W.skip ?_
    refine hK47 _ _ ?_
    clear hK47
    refine W.seq fun K48 hK48 => ?_
    refine W.block ?_
    refine W.seq fun K49 hK49 => ?_
    refine W.region ?_
    refine ops_run 2 (by kernel_rfl) ?_
    refine ops_done (by kernel_rfl) ?_
    refine hK49 _ _ ?_
    clear hK49
    refine W.region ?_
    refine ops_run 4 (by kernel_rfl) ?_
    refine ops_val (v := .int .i64 (IntKind.i64.wrap ((ifind (img.length : Int) gw gi gb n_).1 + 2))) (v' := .int .i64 ((ifind (img.length : Int) gw gi gb n_).1 + 2)) (by kernel_rfl) (congrArg (Value.int .i64) (wrap_i64 (by omega) (by omega))) ?_
    refine ops_call (pre := []) hs45 (by kernel_rfl) (get_spec (at_ := ((ifind (img.length : Int) gw gi gb n_).1 + 2)) (hv := (viewAt_old hs45 hv)) B _) ?_
    rintro _ _ w50 ⟨rfl, rfl⟩ hs51
    have hs52 : St B w [] w50 [blk b23 (.cells [(.int .u64 (vget img l ((ifind (img.length : Int) gw gi gb n_).1 + 0))), (.int .u64 (vget img l ((ifind (img.length : Int) gw gi gb n_).1 + 1))), (.int .u64 0), (.int .u64 0), (.int .u64 0), (.int .u64 0), (.int .u64 0), (.int .u64 0), (.int .u64 0), (.int .u64 0)].toArray 103 (0, 0)), blk b7 (.cells [(.int .u64 0), (.int .u64 0), (.int .u64 0), (.int .u64 0), (.int .u64 0), (.int .u64 0), (.int .u64 0), (.int .u64 0), (.int .u64 0), (.int .u64 0)].toArray 54 (0, 0)), blk b4 (.cells [(.int .i64 gw), (.int .i64 gi), (.int .i64 gb)].toArray 56 (0, 0))] := hs51
    refine ops_run 1 (by kernel_rfl) ?_
    refine ops_store (off := 2) (cs := [(.int .u64 (vget img l ((ifind (img.length : Int) gw gi gb n_).1 + 0))), (.int .u64 (vget img l ((ifind (img.length : Int) gw gi gb n_).1 + 1))), (.int .u64 0), (.int .u64 0), (.int .u64 0), (.int .u64 0), (.int .u64 0), (.int .u64 0), (.int .u64 0), (.int .u64 0)]) (vs := [(.int .u64 (vget img l ((ifind (img.length : Int) gw gi gb n_).1 + 2)))]) hs52 (by kernel_rfl) (by simp) rfl (fun w53 hs54 => ?_)
    have hs55 : St B w [] w53 [blk b23 (.cells [(.int .u64 (vget img l ((ifind (img.length : Int) gw gi gb n_).1 + 0))), (.int .u64 (vget img l ((ifind (img.length : Int) gw gi gb n_).1 + 1))), (.int .u64 (vget img l ((ifind (img.length : Int) gw gi gb n_).1 + 2))), (.int .u64 0), (.int .u64 0), (.int .u64 0), (.int .u64 0), (.int .u64 0), (.int .u64 0), (.int .u64 0)].toArray 103 (0, 0)), blk b7 (.cells [(.int .u64 0), (.int .u64 0), (.int .u64 0), (.int .u64 0), (.int .u64 0), (.int .u64 0), (.int .u64 0), (.int .u64 0), (.int .u64 0), (.int .u64 0)].toArray 54 (0, 0)), blk b4 (.cells [(.int .i64 gw), (.int .i64 gi), (.int .i64 gb)].toArray 56 (0, 0))] := hs54
    refine ops_done (by kernel_rfl) ?_
    refine normal_block ?_
    refine hK48 _ _ ?_
    clear hK48
    refine W.region ?_
    refine ops_run 2 (by kernel_rfl) ?_
    refine ops_done (by kernel_rfl) ?_
    refine loopAt_next ?_
    refine loopAt_round ?_
    refine W.seq fun K56 hK56 => ?_
    refine W.region ?_
    refine ops_run 1 (by kernel_rfl) ?_
    refine ops_done (by kernel_rfl) ?_
    refine hK56 _ _ ?_
    clear hK56
    refine W.seq fun K57 hK57 => ?_
    refine W.cond_true true (by kernel_rfl) rfl ?_
    refine W.skip ?_
    refine hK57 _ _ ?_
    clear hK57
    refine W.seq fun K58 hK58 => ?_
    refine W.block ?_
    refine W.seq fun K59 hK59 => ?_
    refine W.region ?_
    refine ops_run 2 (by kernel_rfl) ?_
    refine ops_done (by kernel_rfl) ?_
    refine hK59 _ _ ?_
    clear hK59
    refine W.region ?_
    refine ops_run 4 (by kernel_rfl) ?_
    refine ops_val (v := .int .i64 (IntKind.i64.wrap ((ifind (img.length : Int) gw gi gb n_).1 + 3))) (v' := .int .i64 ((ifind (img.length : Int) gw gi gb n_).1 + 3)) (by kernel_rfl) (congrArg (Value.int .i64) (wrap_i64 (by omega) (by omega))) ?_
    refine ops_call (pre := []) hs55 (by kernel_rfl) (get_spec (at_ := ((ifind (img.length : Int) gw gi gb n_).1 + 3)) (hv := (viewAt_old hs55 hv)) B _) ?_
    rintro _ _ w60 ⟨rfl, rfl⟩ hs61
    have hs62 : St B w [] w60 [blk b23 (.cells [(.int .u64 (vget img l ((ifind (img.length : Int) gw gi gb n_).1 + 0))), (.int .u64 (vget img l ((ifind (img.length : Int) gw gi gb n_).1 + 1))), (.int .u64 (vget img l ((ifind (img.length : Int) gw gi gb n_).1 + 2))), (.int .u64 0), (.int .u64 0), (.int .u64 0), (.int .u64 0), (.int .u64 0), (.int .u64 0), (.int .u64 0)].toArray 103 (0, 0)), blk b7 (.cells [(.int .u64 0), (.int .u64 0), (.int .u64 0), (.int .u64 0), (.int .u64 0), (.int .u64 0), (.int .u64 0), (.int .u64 0), (.int .u64 0), (.int .u64 0)].toArray 54 (0, 0)), blk b4 (.cells [(.int .i64 gw), (.int .i64 gi), (.int .i64 gb)].toArray 56 (0, 0))] := hs61
    refine ops_run 1 (by kernel_rfl) ?_
    refine ops_store (off := 3) (cs := [(.int .u64 (vget img l ((ifind (img.length : Int) gw gi gb n_).1 + 0))), (.int .u64 (vget img l ((ifind (img.length : Int) gw gi gb n_).1 + 1))), (.int .u64 (vget img l ((ifind (img.length : Int) gw gi gb n_).1 + 2))), (.int .u64 0), (.int .u64 0), (.int .u64 0), (.int .u64 0), (.int .u64 0), (.int .u64 0), (.int .u64 0)]) (vs := [(.int .u64 (vget img l ((ifind (img.length : Int) gw gi gb n_).1 + 3)))]) hs62 (by kernel_rfl) (by simp) rfl (fun w63 hs64 => ?_)
    have hs65 : St B w [] w63 [blk b23 (.cells [(.int .u64 (vget img l ((ifind (img.length : Int) gw gi gb n_).1 + 0))), (.int .u64 (vget img l ((ifind (img.length : Int) gw gi gb n_).1 + 1))), (.int .u64 (vget img l ((ifind (img.length : Int) gw gi gb n_).1 + 2))), (.int .u64 (vget img l ((ifind (img.length : Int) gw gi gb n_).1 + 3))), (.int .u64 0), (.int .u64 0), (.int .u64 0), (.int .u64 0), (.int .u64 0), (.int .u64 0)].toArray 103 (0, 0)), blk b7 (.cells [(.int .u64 0), (.int .u64 0), (.int .u64 0), (.int .u64 0), (.int .u64 0), (.int .u64 0), (.int .u64 0), (.int .u64 0), (.int .u64 0), (.int .u64 0)].toArray 54 (0, 0)), blk b4 (.cells [(.int .i64 gw), (.int .i64 gi), (.int .i64 gb)].toArray 56 (0, 0))] := hs64
    refine ops_done (by kernel_rfl) ?_
    refine normal_block ?_
    refine hK58 _ _ ?_
    clear hK58
    refine W.region ?_
    refine ops_run 2 (by kernel_rfl) ?_
    refine ops_done (by kernel_rfl) ?_
    refine loopAt_next ?_
    refine loopAt_round ?_
    refine W.seq fun K66 hK66 => ?_
    refine W.region ?_
    refine ops_run 1 (by kernel_rfl) ?_
    refine ops_done (by kernel_rfl) ?_
    refine hK66 _ _ ?_
    clear hK66
    refine W.seq fun K67 hK67 => ?_
    refine W.cond_true true (by kernel_rfl) rfl ?_
    refine W.skip ?_
    refine hK67 _ _ ?_
    clear hK67
    refine W.seq fun K68 hK68 => ?_
    refine W.block ?_
    refine W.seq fun K69 hK69 => ?_
    refine W.region ?_
    refine ops_run 2 (by kernel_rfl) ?_
    refine ops_done (by kernel_rfl) ?_
    refine hK69 _ _ ?_
    clear hK69
    refine W.region ?_
    refine ops_run 4 (by kernel_rfl) ?_
    refine ops_val (v := .int .i64 (IntKind.i64.wrap ((ifind (img.length : Int) gw gi gb n_).1 + 4))) (v' := .int .i64 ((ifind (img.length : Int) gw gi gb n_).1 + 4)) (by kernel_rfl) (congrArg (Value.int .i64) (wrap_i64 (by omega) (by omega))) ?_
    refine ops_call (pre := []) hs65 (by kernel_rfl) (get_spec (at_ := ((ifind (img.length : Int) gw gi gb n_).1 + 4)) (hv := (viewAt_old hs65 hv)) B _) ?_
    rintro _ _ w70 ⟨rfl, rfl⟩ hs71
    have hs72 : St B w [] w70 [blk b23 (.cells [(.int .u64 (vget img l ((ifind (img.length : Int) gw gi gb n_).1 + 0))), (.int .u64 (vget img l ((ifind (img.length : Int) gw gi gb n_).1 + 1))), (.int .u64 (vget img l ((ifind (img.length : Int) gw gi gb n_).1 + 2))), (.int .u64 (vget img l ((ifind (img.length : Int) gw gi gb n_).1 + 3))), (.int .u64 0), (.int .u64 0), (.int .u64 0), (.int .u64 0), (.int .u64 0), (.int .u64 0)].toArray 103 (0, 0)), blk b7 (.cells [(.int .u64 0), (.int .u64 0), (.int .u64 0), (.int .u64 0), (.int .u64 0), (.int .u64 0), (.int .u64 0), (.int .u64 0), (.int .u64 0), (.int .u64 0)].toArray 54 (0, 0)), blk b4 (.cells [(.int .i64 gw), (.int .i64 gi), (.int .i64 gb)].toArray 56 (0, 0))] := hs71
    refine ops_run 1 (by kernel_rfl) ?_
    refine ops_store (off := 4) (cs := [(.int .u64 (vget img l ((ifind (img.length : Int) gw gi gb n_).1 + 0))), (.int .u64 (vget img l ((ifind (img.length : Int) gw gi gb n_).1 + 1))), (.int .u64 (vget img l ((ifind (img.length : Int) gw gi gb n_).1 + 2))), (.int .u64 (vget img l ((ifind (img.length : Int) gw gi gb n_).1 + 3))), (.int .u64 0), (.int .u64 0), (.int .u64 0), (.int .u64 0), (.int .u64 0), (.int .u64 0)]) (vs := [(.int .u64 (vget img l ((ifind (img.length : Int) gw gi gb n_).1 + 4)))]) hs72 (by kernel_rfl) (by simp) rfl (fun w73 hs74 => ?_)
    have hs75 : St B w [] w73 [blk b23 (.cells [(.int .u64 (vget img l ((ifind (img.length : Int) gw gi gb n_).1 + 0))), (.int .u64 (vget img l ((ifind (img.length : Int) gw gi gb n_).1 + 1))), (.int .u64 (vget img l ((ifind (img.length : Int) gw gi gb n_).1 + 2))), (.int .u64 (vget img l ((ifind (img.length : Int) gw gi gb n_).1 + 3))), (.int .u64 (vget img l ((ifind (img.length : Int) gw gi gb n_).1 + 4))), (.int .u64 0), (.int .u64 0), (.int .u64 0), (.int .u64 0), (.int .u64 0)].toArray 103 (0, 0)), blk b7 (.cells [(.int .u64 0), (.int .u64 0), (.int .u64 0), (.int .u64 0), (.int .u64 0), (.int .u64 0), (.int .u64 0), (.int .u64 0), (.int .u64 0), (.int .u64 0)].toArray 54 (0, 0)), blk b4 (.cells [(.int .i64 gw), (.int .i64 gi), (.int .i64 gb)].toArray 56 (0, 0))] := hs74
    refine ops_done (by kernel_rfl) ?_
    refine normal_block ?_
    refine hK68 _ _ ?_
    clear hK68
    refine W.region ?_
    refine ops_run 2 (by kernel_rfl) ?_
    refine ops_done (by kernel_rfl) ?_
    refine loopAt_next ?_
    refine loopAt_round ?_
    refine W.seq fun K76 hK76 => ?_
    refine W.region ?_
    refine ops_run 1 (by kernel_rfl) ?_
    refine ops_done (by kernel_rfl) ?_
    refine hK76 _ _ ?_
    clear hK76
    refine W.seq fun K77 hK77 => ?_
    refine W.cond_true true (by kernel_rfl) rfl ?_
    refine W.skip ?_
    refine hK77 _ _ ?_
    clear hK77
    refine W.seq fun K78 hK78 => ?_
    refine W.block ?_
    refine W.seq fun K79 hK79 => ?_
    refine W.region ?_
    refine ops_run 2 (by kernel_rfl) ?_
    refine ops_done (by kernel_rfl) ?_
    refine hK79 _ _ ?_
    clear hK79
    refine W.region ?_
    refine ops_run 4 (by kernel_rfl) ?_
    refine ops_val (v := .int .i64 (IntKind.i64.wrap ((ifind (img.length : Int) gw gi gb n_).1 + 5))) (v' := .int .i64 ((ifind (img.length : Int) gw gi gb n_).1 + 5)) (by kernel_rfl) (congrArg (Value.int .i64) (wrap_i64 (by omega) (by omega))) ?_
    refine ops_call (pre := []) hs75 (by kernel_rfl) (get_spec (at_ := ((ifind (img.length : Int) gw gi gb n_).1 + 5)) (hv := (viewAt_old hs75 hv)) B _) ?_
    rintro _ _ w80 ⟨rfl, rfl⟩ hs81
    have hs82 : St B w [] w80 [blk b23 (.cells [(.int .u64 (vget img l ((ifind (img.length : Int) gw gi gb n_).1 + 0))), (.int .u64 (vget img l ((ifind (img.length : Int) gw gi gb n_).1 + 1))), (.int .u64 (vget img l ((ifind (img.length : Int) gw gi gb n_).1 + 2))), (.int .u64 (vget img l ((ifind (img.length : Int) gw gi gb n_).1 + 3))), (.int .u64 (vget img l ((ifind (img.length : Int) gw gi gb n_).1 + 4))), (.int .u64 0), (.int .u64 0), (.int .u64 0), (.int .u64 0), (.int .u64 0)].toArray 103 (0, 0)), blk b7 (.cells [(.int .u64 0), (.int .u64 0), (.int .u64 0), (.int .u64 0), (.int .u64 0), (.int .u64 0), (.int .u64 0), (.int .u64 0), (.int .u64 0), (.int .u64 0)].toArray 54 (0, 0)), blk b4 (.cells [(.int .i64 gw), (.int .i64 gi), (.int .i64 gb)].toArray 56 (0, 0))] := hs81
    refine ops_run 1 (by kernel_rfl) ?_
    refine ops_store (off := 5) (cs := [(.int .u64 (vget img l ((ifind (img.length : Int) gw gi gb n_).1 + 0))), (.int .u64 (vget img l ((ifind (img.length : Int) gw gi gb n_).1 + 1))), (.int .u64 (vget img l ((ifind (img.length : Int) gw gi gb n_).1 + 2))), (.int .u64 (vget img l ((ifind (img.length : Int) gw gi gb n_).1 + 3))), (.int .u64 (vget img l ((ifind (img.length : Int) gw gi gb n_).1 + 4))), (.int .u64 0), (.int .u64 0), (.int .u64 0), (.int .u64 0), (.int .u64 0)]) (vs := [(.int .u64 (vget img l ((ifind (img.length : Int) gw gi gb n_).1 + 5)))]) hs82 (by kernel_rfl) (by simp) rfl (fun w83 hs84 => ?_)
    have hs85 : St B w [] w83 [blk b23 (.cells [(.int .u64 (vget img l ((ifind (img.length : Int) gw gi gb n_).1 + 0))), (.int .u64 (vget img l ((ifind (img.length : Int) gw gi gb n_).1 + 1))), (.int .u64 (vget img l ((ifind (img.length : Int) gw gi gb n_).1 + 2))), (.int .u64 (vget img l ((ifind (img.length : Int) gw gi gb n_).1 + 3))), (.int .u64 (vget img l ((ifind (img.length : Int) gw gi gb n_).1 + 4))), (.int .u64 (vget img l ((ifind (img.length : Int) gw gi gb n_).1 + 5))), (.int .u64 0), (.int .u64 0), (.int .u64 0), (.int .u64 0)].toArray 103 (0, 0)), blk b7 (.cells [(.int .u64 0), (.int .u64 0), (.int .u64 0), (.int .u64 0), (.int .u64 0), (.int .u64 0), (.int .u64 0), (.int .u64 0), (.int .u64 0), (.int .u64 0)].toArray 54 (0, 0)), blk b4 (.cells [(.int .i64 gw), (.int .i64 gi), (.int .i64 gb)].toArray 56 (0, 0))] := hs84
    refine ops_done (by kernel_rfl) ?_
    refine normal_block ?_
    refine hK78 _ _ ?_
    clear hK78
    refine W.region ?_
    refine ops_run 2 (by kernel_rfl) ?_
    refine ops_done (by kernel_rfl) ?_
    refine loopAt_next ?_
    refine loopAt_round ?_
    refine W.seq fun K86 hK86 => ?_
    refine W.region ?_
    refine ops_run 1 (by kernel_rfl) ?_
    refine ops_done (by kernel_rfl) ?_
    refine hK86 _ _ ?_
    clear hK86
    refine W.seq fun K87 hK87 => ?_
    refine W.cond_true true (by kernel_rfl) rfl ?_
    refine W.skip ?_
    refine hK87 _ _ ?_
    clear hK87
    refine W.seq fun K88 hK88 => ?_
    refine W.block ?_
    refine W.seq fun K89 hK89 => ?_
    refine W.region ?_
    refine ops_run 2 (by kernel_rfl) ?_
    refine ops_done (by kernel_rfl) ?_
    refine hK89 _ _ ?_
    clear hK89
    refine W.region ?_
    refine ops_run 4 (by kernel_rfl) ?_
    refine ops_val (v := .int .i64 (IntKind.i64.wrap ((ifind (img.length : Int) gw gi gb n_).1 + 6))) (v' := .int .i64 ((ifind (img.length : Int) gw gi gb n_).1 + 6)) (by kernel_rfl) (congrArg (Value.int .i64) (wrap_i64 (by omega) (by omega))) ?_
    refine ops_call (pre := []) hs85 (by kernel_rfl) (get_spec (at_ := ((ifind (img.length : Int) gw gi gb n_).1 + 6)) (hv := (viewAt_old hs85 hv)) B _) ?_
    rintro _ _ w90 ⟨rfl, rfl⟩ hs91
    have hs92 : St B w [] w90 [blk b23 (.cells [(.int .u64 (vget img l ((ifind (img.length : Int) gw gi gb n_).1 + 0))), (.int .u64 (vget img l ((ifind (img.length : Int) gw gi gb n_).1 + 1))), (.int .u64 (vget img l ((ifind (img.length : Int) gw gi gb n_).1 + 2))), (.int .u64 (vget img l ((ifind (img.length : Int) gw gi gb n_).1 + 3))), (.int .u64 (vget img l ((ifind (img.length : Int) gw gi gb n_).1 + 4))), (.int .u64 (vget img l ((ifind (img.length : Int) gw gi gb n_).1 + 5))), (.int .u64 0), (.int .u64 0), (.int .u64 0), (.int .u64 0)].toArray 103 (0, 0)), blk b7 (.cells [(.int .u64 0), (.int .u64 0), (.int .u64 0), (.int .u64 0), (.int .u64 0), (.int .u64 0), (.int .u64 0), (.int .u64 0), (.int .u64 0), (.int .u64 0)].toArray 54 (0, 0)), blk b4 (.cells [(.int .i64 gw), (.int .i64 gi), (.int .i64 gb)].toArray 56 (0, 0))] := hs91
    refine ops_run 1 (by kernel_rfl) ?_
    refine ops_store (off := 6) (cs := [(.int .u64 (vget img l ((ifind (img.length : Int) gw gi gb n_).1 + 0))), (.int .u64 (vget img l ((ifind (img.length : Int) gw gi gb n_).1 + 1))), (.int .u64 (vget img l ((ifind (img.length : Int) gw gi gb n_).1 + 2))), (.int .u64 (vget img l ((ifind (img.length : Int) gw gi gb n_).1 + 3))), (.int .u64 (vget img l ((ifind (img.length : Int) gw gi gb n_).1 + 4))), (.int .u64 (vget img l ((ifind (img.length : Int) gw gi gb n_).1 + 5))), (.int .u64 0), (.int .u64 0), (.int .u64 0), (.int .u64 0)]) (vs := [(.int .u64 (vget img l ((ifind (img.length : Int) gw gi gb n_).1 + 6)))]) hs92 (by kernel_rfl) (by simp) rfl (fun w93 hs94 => ?_)
    have hs95 : St B w [] w93 [blk b23 (.cells [(.int .u64 (vget img l ((ifind (img.length : Int) gw gi gb n_).1 + 0))), (.int .u64 (vget img l ((ifind (img.length : Int) gw gi gb n_).1 + 1))), (.int .u64 (vget img l ((ifind (img.length : Int) gw gi gb n_).1 + 2))), (.int .u64 (vget img l ((ifind (img.length : Int) gw gi gb n_).1 + 3))), (.int .u64 (vget img l ((ifind (img.length : Int) gw gi gb n_).1 + 4))), (.int .u64 (vget img l ((ifind (img.length : Int) gw gi gb n_).1 + 5))), (.int .u64 (vget img l ((ifind (img.length : Int) gw gi gb n_).1 + 6))), (.int .u64 0), (.int .u64 0), (.int .u64 0)].toArray 103 (0, 0)), blk b7 (.cells [(.int .u64 0), (.int .u64 0), (.int .u64 0), (.int .u64 0), (.int .u64 0), (.int .u64 0), (.int .u64 0), (.int .u64 0), (.int .u64 0), (.int .u64 0)].toArray 54 (0, 0)), blk b4 (.cells [(.int .i64 gw), (.int .i64 gi), (.int .i64 gb)].toArray 56 (0, 0))] := hs94
    refine ops_done (by kernel_rfl) ?_
    refine normal_block ?_
    refine hK88 _ _ ?_
    clear hK88
    refine W.region ?_
    refine ops_run 2 (by kernel_rfl) ?_
    refine ops_done (by kernel_rfl) ?_
    refine loopAt_next ?_
    refine loopAt_round ?_
    refine W.seq fun K96 hK96 => ?_
    refine W.region ?_
    refine ops_run 1 (by kernel_rfl) ?_
    refine ops_done (by kernel_rfl) ?_
    refine hK96 _ _ ?_
    clear hK96
    refine W.seq fun K97 hK97 => ?_
    refine W.cond_true true (by kernel_rfl) rfl ?_
    refine W.skip ?_
    refine hK97 _ _ ?_
    clear hK97
    refine W.seq fun K98 hK98 => ?_
    refine W.block ?_
    refine W.seq fun K99 hK99 => ?_
    refine W.region ?_
    refine ops_run 2 (by kernel_rfl) ?_
    refine ops_done (by kernel_rfl) ?_
    refine hK99 _ _ ?_
    clear hK99
    refine W.region ?_
    refine ops_run 4 (by kernel_rfl) ?_
    refine ops_val (v := .int .i64 (IntKind.i64.wrap ((ifind (img.length : Int) gw gi gb n_).1 + 7))) (v' := .int .i64 ((ifind (img.length : Int) gw gi gb n_).1 + 7)) (by kernel_rfl) (congrArg (Value.int .i64) (wrap_i64 (by omega) (by omega))) ?_
    refine ops_call (pre := []) hs95 (by kernel_rfl) (get_spec (at_ := ((ifind (img.length : Int) gw gi gb n_).1 + 7)) (hv := (viewAt_old hs95 hv)) B _) ?_
    rintro _ _ w100 ⟨rfl, rfl⟩ hs101
    have hs102 : St B w [] w100 [blk b23 (.cells [(.int .u64 (vget img l ((ifind (img.length : Int) gw gi gb n_).1 + 0))), (.int .u64 (vget img l ((ifind (img.length : Int) gw gi gb n_).1 + 1))), (.int .u64 (vget img l ((ifind (img.length : Int) gw gi gb n_).1 + 2))), (.int .u64 (vget img l ((ifind (img.length : Int) gw gi gb n_).1 + 3))), (.int .u64 (vget img l ((ifind (img.length : Int) gw gi gb n_).1 + 4))), (.int .u64 (vget img l ((ifind (img.length : Int) gw gi gb n_).1 + 5))), (.int .u64 (vget img l ((ifind (img.length : Int) gw gi gb n_).1 + 6))), (.int .u64 0), (.int .u64 0), (.int .u64 0)].toArray 103 (0, 0)), blk b7 (.cells [(.int .u64 0), (.int .u64 0), (.int .u64 0), (.int .u64 0), (.int .u64 0), (.int .u64 0), (.int .u64 0), (.int .u64 0), (.int .u64 0), (.int .u64 0)].toArray 54 (0, 0)), blk b4 (.cells [(.int .i64 gw), (.int .i64 gi), (.int .i64 gb)].toArray 56 (0, 0))] := hs101
    refine ops_run 1 (by kernel_rfl) ?_
    refine ops_store (off := 7) (cs := [(.int .u64 (vget img l ((ifind (img.length : Int) gw gi gb n_).1 + 0))), (.int .u64 (vget img l ((ifind (img.length : Int) gw gi gb n_).1 + 1))), (.int .u64 (vget img l ((ifind (img.length : Int) gw gi gb n_).1 + 2))), (.int .u64 (vget img l ((ifind (img.length : Int) gw gi gb n_).1 + 3))), (.int .u64 (vget img l ((ifind (img.length : Int) gw gi gb n_).1 + 4))), (.int .u64 (vget img l ((ifind (img.length : Int) gw gi gb n_).1 + 5))), (.int .u64 (vget img l ((ifind (img.length : Int) gw gi gb n_).1 + 6))), (.int .u64 0), (.int .u64 0), (.int .u64 0)]) (vs := [(.int .u64 (vget img l ((ifind (img.length : Int) gw gi gb n_).1 + 7)))]) hs102 (by kernel_rfl) (by simp) rfl (fun w103 hs104 => ?_)
    have hs105 : St B w [] w103 [blk b23 (.cells [(.int .u64 (vget img l ((ifind (img.length : Int) gw gi gb n_).1 + 0))), (.int .u64 (vget img l ((ifind (img.length : Int) gw gi gb n_).1 + 1))), (.int .u64 (vget img l ((ifind (img.length : Int) gw gi gb n_).1 + 2))), (.int .u64 (vget img l ((ifind (img.length : Int) gw gi gb n_).1 + 3))), (.int .u64 (vget img l ((ifind (img.length : Int) gw gi gb n_).1 + 4))), (.int .u64 (vget img l ((ifind (img.length : Int) gw gi gb n_).1 + 5))), (.int .u64 (vget img l ((ifind (img.length : Int) gw gi gb n_).1 + 6))), (.int .u64 (vget img l ((ifind (img.length : Int) gw gi gb n_).1 + 7))), (.int .u64 0), (.int .u64 0)].toArray 103 (0, 0)), blk b7 (.cells [(.int .u64 0), (.int .u64 0), (.int .u64 0), (.int .u64 0), (.int .u64 0), (.int .u64 0), (.int .u64 0), (.int .u64 0), (.int .u64 0), (.int .u64 0)].toArray 54 (0, 0)), blk b4 (.cells [(.int .i64 gw), (.int .i64 gi), (.int .i64 gb)].toArray 56 (0, 0))] := hs104
    refine ops_done (by kernel_rfl) ?_
    refine normal_block ?_
    refine hK98 _ _ ?_
    clear hK98
    refine W.region ?_
    refine ops_run 2 (by kernel_rfl) ?_
    refine ops_done (by kernel_rfl) ?_
    refine loopAt_next ?_
    refine loopAt_round ?_
    refine W.seq fun K106 hK106 => ?_
    refine W.region ?_
    refine ops_run 1 (by kernel_rfl) ?_
    refine ops_done (by kernel_rfl) ?_
    refine hK106 _ _ ?_
    clear hK106
    refine W.seq fun K107 hK107 => ?_
    refine W.cond_true true (by kernel_rfl) rfl ?_
    refine W.skip ?_
    refine hK107 _ _ ?_
    clear hK107
    refine W.seq fun K108 hK108 => ?_
    refine W.block ?_
    refine W.seq fun K109 hK109 => ?_
    refine W.region ?_
    refine ops_run 2 (by kernel_rfl) ?_
    refine ops_done (by kernel_rfl) ?_
    refine hK109 _ _ ?_
    clear hK109
    refine W.region ?_
    refine ops_run 4 (by kernel_rfl) ?_
    refine ops_val (v := .int .i64 (IntKind.i64.wrap ((ifind (img.length : Int) gw gi gb n_).1 + 8))) (v' := .int .i64 ((ifind (img.length : Int) gw gi gb n_).1 + 8)) (by kernel_rfl) (congrArg (Value.int .i64) (wrap_i64 (by omega) (by omega))) ?_
    refine ops_call (pre := []) hs105 (by kernel_rfl) (get_spec (at_ := ((ifind (img.length : Int) gw gi gb n_).1 + 8)) (hv := (viewAt_old hs105 hv)) B _) ?_
    rintro _ _ w110 ⟨rfl, rfl⟩ hs111
    have hs112 : St B w [] w110 [blk b23 (.cells [(.int .u64 (vget img l ((ifind (img.length : Int) gw gi gb n_).1 + 0))), (.int .u64 (vget img l ((ifind (img.length : Int) gw gi gb n_).1 + 1))), (.int .u64 (vget img l ((ifind (img.length : Int) gw gi gb n_).1 + 2))), (.int .u64 (vget img l ((ifind (img.length : Int) gw gi gb n_).1 + 3))), (.int .u64 (vget img l ((ifind (img.length : Int) gw gi gb n_).1 + 4))), (.int .u64 (vget img l ((ifind (img.length : Int) gw gi gb n_).1 + 5))), (.int .u64 (vget img l ((ifind (img.length : Int) gw gi gb n_).1 + 6))), (.int .u64 (vget img l ((ifind (img.length : Int) gw gi gb n_).1 + 7))), (.int .u64 0), (.int .u64 0)].toArray 103 (0, 0)), blk b7 (.cells [(.int .u64 0), (.int .u64 0), (.int .u64 0), (.int .u64 0), (.int .u64 0), (.int .u64 0), (.int .u64 0), (.int .u64 0), (.int .u64 0), (.int .u64 0)].toArray 54 (0, 0)), blk b4 (.cells [(.int .i64 gw), (.int .i64 gi), (.int .i64 gb)].toArray 56 (0, 0))] := hs111
    refine ops_run 1 (by kernel_rfl) ?_
    refine ops_store (off := 8) (cs := [(.int .u64 (vget img l ((ifind (img.length : Int) gw gi gb n_).1 + 0))), (.int .u64 (vget img l ((ifind (img.length : Int) gw gi gb n_).1 + 1))), (.int .u64 (vget img l ((ifind (img.length : Int) gw gi gb n_).1 + 2))), (.int .u64 (vget img l ((ifind (img.length : Int) gw gi gb n_).1 + 3))), (.int .u64 (vget img l ((ifind (img.length : Int) gw gi gb n_).1 + 4))), (.int .u64 (vget img l ((ifind (img.length : Int) gw gi gb n_).1 + 5))), (.int .u64 (vget img l ((ifind (img.length : Int) gw gi gb n_).1 + 6))), (.int .u64 (vget img l ((ifind (img.length : Int) gw gi gb n_).1 + 7))), (.int .u64 0), (.int .u64 0)]) (vs := [(.int .u64 (vget img l ((ifind (img.length : Int) gw gi gb n_).1 + 8)))]) hs112 (by kernel_rfl) (by simp) rfl (fun w113 hs114 => ?_)
    have hs115 : St B w [] w113 [blk b23 (.cells [(.int .u64 (vget img l ((ifind (img.length : Int) gw gi gb n_).1 + 0))), (.int .u64 (vget img l ((ifind (img.length : Int) gw gi gb n_).1 + 1))), (.int .u64 (vget img l ((ifind (img.length : Int) gw gi gb n_).1 + 2))), (.int .u64 (vget img l ((ifind (img.length : Int) gw gi gb n_).1 + 3))), (.int .u64 (vget img l ((ifind (img.length : Int) gw gi gb n_).1 + 4))), (.int .u64 (vget img l ((ifind (img.length : Int) gw gi gb n_).1 + 5))), (.int .u64 (vget img l ((ifind (img.length : Int) gw gi gb n_).1 + 6))), (.int .u64 (vget img l ((ifind (img.length : Int) gw gi gb n_).1 + 7))), (.int .u64 (vget img l ((ifind (img.length : Int) gw gi gb n_).1 + 8))), (.int .u64 0)].toArray 103 (0, 0)), blk b7 (.cells [(.int .u64 0), (.int .u64 0), (.int .u64 0), (.int .u64 0), (.int .u64 0), (.int .u64 0), (.int .u64 0), (.int .u64 0), (.int .u64 0), (.int .u64 0)].toArray 54 (0, 0)), blk b4 (.cells [(.int .i64 gw), (.int .i64 gi), (.int .i64 gb)].toArray 56 (0, 0))] := hs114
    refine ops_done (by kernel_rfl) ?_
    refine normal_block ?_
    refine hK108 _ _ ?_
    clear hK108
    refine W.region ?_
    refine ops_run 2 (by kernel_rfl) ?_
    refine ops_done (by kernel_rfl) ?_
    refine loopAt_next ?_
    refine loopAt_round ?_
    refine W.seq fun K116 hK116 => ?_
    refine W.region ?_
    refine ops_run 1 (by kernel_rfl) ?_
    refine ops_done (by kernel_rfl) ?_
    refine hK116 _ _ ?_
    clear hK116
    refine W.seq fun K117 hK117 => ?_
    refine W.cond_true true (by kernel_rfl) rfl ?_
    refine W.skip ?_
    refine hK117 _ _ ?_
    clear hK117
    refine W.seq fun K118 hK118 => ?_
    refine W.block ?_
    refine W.seq fun K119 hK119 => ?_
    refine W.region ?_
    refine ops_run 2 (by kernel_rfl) ?_
    refine ops_done (by kernel_rfl) ?_
    refine hK119 _ _ ?_
    clear hK119
    refine W.region ?_
    refine ops_run 4 (by kernel_rfl) ?_
    refine ops_val (v := .int .i64 (IntKind.i64.wrap ((ifind (img.length : Int) gw gi gb n_).1 + 9))) (v' := .int .i64 ((ifind (img.length : Int) gw gi gb n_).1 + 9)) (by kernel_rfl) (congrArg (Value.int .i64) (wrap_i64 (by omega) (by omega))) ?_
    refine ops_call (pre := []) hs115 (by kernel_rfl) (get_spec (at_ := ((ifind (img.length : Int) gw gi gb n_).1 + 9)) (hv := (viewAt_old hs115 hv)) B _) ?_
    rintro _ _ w120 ⟨rfl, rfl⟩ hs121
    have hs122 : St B w [] w120 [blk b23 (.cells [(.int .u64 (vget img l ((ifind (img.length : Int) gw gi gb n_).1 + 0))), (.int .u64 (vget img l ((ifind (img.length : Int) gw gi gb n_).1 + 1))), (.int .u64 (vget img l ((ifind (img.length : Int) gw gi gb n_).1 + 2))), (.int .u64 (vget img l ((ifind (img.length : Int) gw gi gb n_).1 + 3))), (.int .u64 (vget img l ((ifind (img.length : Int) gw gi gb n_).1 + 4))), (.int .u64 (vget img l ((ifind (img.length : Int) gw gi gb n_).1 + 5))), (.int .u64 (vget img l ((ifind (img.length : Int) gw gi gb n_).1 + 6))), (.int .u64 (vget img l ((ifind (img.length : Int) gw gi gb n_).1 + 7))), (.int .u64 (vget img l ((ifind (img.length : Int) gw gi gb n_).1 + 8))), (.int .u64 0)].toArray 103 (0, 0)), blk b7 (.cells [(.int .u64 0), (.int .u64 0), (.int .u64 0), (.int .u64 0), (.int .u64 0), (.int .u64 0), (.int .u64 0), (.int .u64 0), (.int .u64 0), (.int .u64 0)].toArray 54 (0, 0)), blk b4 (.cells [(.int .i64 gw), (.int .i64 gi), (.int .i64 gb)].toArray 56 (0, 0))] := hs121
    refine ops_run 1 (by kernel_rfl) ?_
    refine ops_store (off := 9) (cs := [(.int .u64 (vget img l ((ifind (img.length : Int) gw gi gb n_).1 + 0))), (.int .u64 (vget img l ((ifind (img.length : Int) gw gi gb n_).1 + 1))), (.int .u64 (vget img l ((ifind (img.length : Int) gw gi gb n_).1 + 2))), (.int .u64 (vget img l ((ifind (img.length : Int) gw gi gb n_).1 + 3))), (.int .u64 (vget img l ((ifind (img.length : Int) gw gi gb n_).1 + 4))), (.int .u64 (vget img l ((ifind (img.length : Int) gw gi gb n_).1 + 5))), (.int .u64 (vget img l ((ifind (img.length : Int) gw gi gb n_).1 + 6))), (.int .u64 (vget img l ((ifind (img.length : Int) gw gi gb n_).1 + 7))), (.int .u64 (vget img l ((ifind (img.length : Int) gw gi gb n_).1 + 8))), (.int .u64 0)]) (vs := [(.int .u64 (vget img l ((ifind (img.length : Int) gw gi gb n_).1 + 9)))]) hs122 (by kernel_rfl) (by simp) rfl (fun w123 hs124 => ?_)
    have hs125 : St B w [] w123 [blk b23 (.cells [(.int .u64 (vget img l ((ifind (img.length : Int) gw gi gb n_).1 + 0))), (.int .u64 (vget img l ((ifind (img.length : Int) gw gi gb n_).1 + 1))), (.int .u64 (vget img l ((ifind (img.length : Int) gw gi gb n_).1 + 2))), (.int .u64 (vget img l ((ifind (img.length : Int) gw gi gb n_).1 + 3))), (.int .u64 (vget img l ((ifind (img.length : Int) gw gi gb n_).1 + 4))), (.int .u64 (vget img l ((ifind (img.length : Int) gw gi gb n_).1 + 5))), (.int .u64 (vget img l ((ifind (img.length : Int) gw gi gb n_).1 + 6))), (.int .u64 (vget img l ((ifind (img.length : Int) gw gi gb n_).1 + 7))), (.int .u64 (vget img l ((ifind (img.length : Int) gw gi gb n_).1 + 8))), (.int .u64 (vget img l ((ifind (img.length : Int) gw gi gb n_).1 + 9)))].toArray 103 (0, 0)), blk b7 (.cells [(.int .u64 0), (.int .u64 0), (.int .u64 0), (.int .u64 0), (.int .u64 0), (.int .u64 0), (.int .u64 0), (.int .u64 0), (.int .u64 0), (.int .u64 0)].toArray 54 (0, 0)), blk b4 (.cells [(.int .i64 gw), (.int .i64 gi), (.int .i64 gb)].toArray 56 (0, 0))] := hs124
    refine ops_done (by kernel_rfl) ?_
    refine normal_block ?_
    refine hK118 _ _ ?_
    clear hK118
    refine W.region ?_
    refine ops_run 2 (by kernel_rfl) ?_
    refine ops_done (by kernel_rfl) ?_
    refine loopAt_next ?_
    refine loopAt_round ?_
    refine W.seq fun K126 hK126 => ?_
    refine W.region ?_
    refine ops_run 1 (by kernel_rfl) ?_
    refine ops_done (by kernel_rfl) ?_
    refine hK126 _ _ ?_
    clear hK126
    refine W.seq fun K127 hK127 => ?_
    refine W.cond_false false (by kernel_rfl) rfl ?_
    refine W.exit (exit_seq (exit_seq (exit_here ?_)))
    refine hK24 _ _ ?_
    clear hK24
    refine W.seq fun K128 hK128 => ?_
    refine W.region ?_
    refine ops_R (runs_loadAgg (ad := ⟨b23, 0, none⟩) (cs := [(.int .u64 (vget img l ((ifind (img.length : Int) gw gi gb n_).1 + 0))), (.int .u64 (vget img l ((ifind (img.length : Int) gw gi gb n_).1 + 1))), (.int .u64 (vget img l ((ifind (img.length : Int) gw gi gb n_).1 + 2))), (.int .u64 (vget img l ((ifind (img.length : Int) gw gi gb n_).1 + 3))), (.int .u64 (vget img l ((ifind (img.length : Int) gw gi gb n_).1 + 4))), (.int .u64 (vget img l ((ifind (img.length : Int) gw gi gb n_).1 + 5))), (.int .u64 (vget img l ((ifind (img.length : Int) gw gi gb n_).1 + 6))), (.int .u64 (vget img l ((ifind (img.length : Int) gw gi gb n_).1 + 7))), (.int .u64 (vget img l ((ifind (img.length : Int) gw gi gb n_).1 + 8))), (.int .u64 (vget img l ((ifind (img.length : Int) gw gi gb n_).1 + 9)))]) (by kernel_rfl) (cells_sub (hs125.heapAt 0 rfl) rfl)) ?_
    refine ops_call (pre := []) hs125 (by kernel_rfl) (inode_spec (x_ := ⟨(vget img l ((ifind (img.length : Int) gw gi gb n_).1 + 0)), (vget img l ((ifind (img.length : Int) gw gi gb n_).1 + 1)), (vget img l ((ifind (img.length : Int) gw gi gb n_).1 + 2)), (vget img l ((ifind (img.length : Int) gw gi gb n_).1 + 3)), (vget img l ((ifind (img.length : Int) gw gi gb n_).1 + 4)), (vget img l ((ifind (img.length : Int) gw gi gb n_).1 + 5)), (vget img l ((ifind (img.length : Int) gw gi gb n_).1 + 6)), (vget img l ((ifind (img.length : Int) gw gi gb n_).1 + 7)), (vget img l ((ifind (img.length : Int) gw gi gb n_).1 + 8)), (vget img l ((ifind (img.length : Int) gw gi gb n_).1 + 9))⟩) B _) ?_
    rintro _ _ w129 ⟨rfl, rfl⟩ hs130
    have hs131 : St B w [] w129 [blk b23 (.cells [(.int .u64 (vget img l ((ifind (img.length : Int) gw gi gb n_).1 + 0))), (.int .u64 (vget img l ((ifind (img.length : Int) gw gi gb n_).1 + 1))), (.int .u64 (vget img l ((ifind (img.length : Int) gw gi gb n_).1 + 2))), (.int .u64 (vget img l ((ifind (img.length : Int) gw gi gb n_).1 + 3))), (.int .u64 (vget img l ((ifind (img.length : Int) gw gi gb n_).1 + 4))), (.int .u64 (vget img l ((ifind (img.length : Int) gw gi gb n_).1 + 5))), (.int .u64 (vget img l ((ifind (img.length : Int) gw gi gb n_).1 + 6))), (.int .u64 (vget img l ((ifind (img.length : Int) gw gi gb n_).1 + 7))), (.int .u64 (vget img l ((ifind (img.length : Int) gw gi gb n_).1 + 8))), (.int .u64 (vget img l ((ifind (img.length : Int) gw gi gb n_).1 + 9)))].toArray 103 (0, 0)), blk b7 (.cells [(.int .u64 0), (.int .u64 0), (.int .u64 0), (.int .u64 0), (.int .u64 0), (.int .u64 0), (.int .u64 0), (.int .u64 0), (.int .u64 0), (.int .u64 0)].toArray 54 (0, 0)), blk b4 (.cells [(.int .i64 gw), (.int .i64 gi), (.int .i64 gb)].toArray 56 (0, 0))] := hs130
    refine ops_new (fun b => .pointer (some ⟨b, 0, none⟩)) (.cells [(.int .u64 0), (.int .u64 0), (.int .u64 0), (.int .u64 0), (.int .u64 0), (.int .u64 0), (.int .u64 0), (.int .u64 0), (.int .u64 0), (.int .u64 0)].toArray 54 (0, 0)) hs131 (by kernel_rfl) (fun b134 w132 hs133 => ?_)
    refine ops_store (off := 0) (cs := [(.int .u64 0), (.int .u64 0), (.int .u64 0), (.int .u64 0), (.int .u64 0), (.int .u64 0), (.int .u64 0), (.int .u64 0), (.int .u64 0), (.int .u64 0)]) (vs := [(.int .u64 (vget img l ((ifind (img.length : Int) gw gi gb n_).1 + 0))), (.int .u64 (vget img l ((ifind (img.length : Int) gw gi gb n_).1 + 1))), (.int .u64 (vget img l ((ifind (img.length : Int) gw gi gb n_).1 + 2))), (.int .u64 (vget img l ((ifind (img.length : Int) gw gi gb n_).1 + 3))), (.int .u64 (vget img l ((ifind (img.length : Int) gw gi gb n_).1 + 4))), (.int .u64 (vget img l ((ifind (img.length : Int) gw gi gb n_).1 + 5))), (.int .u64 (vget img l ((ifind (img.length : Int) gw gi gb n_).1 + 6))), (.int .u64 (vget img l ((ifind (img.length : Int) gw gi gb n_).1 + 7))), (.int .u64 (vget img l ((ifind (img.length : Int) gw gi gb n_).1 + 8))), (.int .u64 (vget img l ((ifind (img.length : Int) gw gi gb n_).1 + 9)))]) hs133 (by kernel_rfl) (by simp) rfl (fun w135 hs136 => ?_)
    have hs137 : St B w [] w135 [blk b134 (.cells [(.int .u64 (vget img l ((ifind (img.length : Int) gw gi gb n_).1 + 0))), (.int .u64 (vget img l ((ifind (img.length : Int) gw gi gb n_).1 + 1))), (.int .u64 (vget img l ((ifind (img.length : Int) gw gi gb n_).1 + 2))), (.int .u64 (vget img l ((ifind (img.length : Int) gw gi gb n_).1 + 3))), (.int .u64 (vget img l ((ifind (img.length : Int) gw gi gb n_).1 + 4))), (.int .u64 (vget img l ((ifind (img.length : Int) gw gi gb n_).1 + 5))), (.int .u64 (vget img l ((ifind (img.length : Int) gw gi gb n_).1 + 6))), (.int .u64 (vget img l ((ifind (img.length : Int) gw gi gb n_).1 + 7))), (.int .u64 (vget img l ((ifind (img.length : Int) gw gi gb n_).1 + 8))), (.int .u64 (vget img l ((ifind (img.length : Int) gw gi gb n_).1 + 9)))].toArray 54 (0, 0)), blk b23 (.cells [(.int .u64 (vget img l ((ifind (img.length : Int) gw gi gb n_).1 + 0))), (.int .u64 (vget img l ((ifind (img.length : Int) gw gi gb n_).1 + 1))), (.int .u64 (vget img l ((ifind (img.length : Int) gw gi gb n_).1 + 2))), (.int .u64 (vget img l ((ifind (img.length : Int) gw gi gb n_).1 + 3))), (.int .u64 (vget img l ((ifind (img.length : Int) gw gi gb n_).1 + 4))), (.int .u64 (vget img l ((ifind (img.length : Int) gw gi gb n_).1 + 5))), (.int .u64 (vget img l ((ifind (img.length : Int) gw gi gb n_).1 + 6))), (.int .u64 (vget img l ((ifind (img.length : Int) gw gi gb n_).1 + 7))), (.int .u64 (vget img l ((ifind (img.length : Int) gw gi gb n_).1 + 8))), (.int .u64 (vget img l ((ifind (img.length : Int) gw gi gb n_).1 + 9)))].toArray 103 (0, 0)), blk b7 (.cells [(.int .u64 0), (.int .u64 0), (.int .u64 0), (.int .u64 0), (.int .u64 0), (.int .u64 0), (.int .u64 0), (.int .u64 0), (.int .u64 0), (.int .u64 0)].toArray 54 (0, 0)), blk b4 (.cells [(.int .i64 gw), (.int .i64 gi), (.int .i64 gb)].toArray 56 (0, 0))] := hs136
    refine ops_done (by kernel_rfl) ?_
    refine hK128 _ _ ?_
    clear hK128
    refine W.seq fun K138 hK138 => ?_
    refine W.seq fun K139 hK139 => ?_
    refine W.region ?_
    refine ops_R (runs_loadAgg (ad := ⟨b4, 0, none⟩) (cs := [(.int .i64 gw), (.int .i64 gi), (.int .i64 gb)]) (by kernel_rfl) (cells_sub (hs137.heapAt 3 rfl) rfl)) ?_
    refine ops_R (runs_loadAgg (ad := ⟨b134, 0, none⟩) (cs := [(.int .u64 (vget img l ((ifind (img.length : Int) gw gi gb n_).1 + 0))), (.int .u64 (vget img l ((ifind (img.length : Int) gw gi gb n_).1 + 1))), (.int .u64 (vget img l ((ifind (img.length : Int) gw gi gb n_).1 + 2))), (.int .u64 (vget img l ((ifind (img.length : Int) gw gi gb n_).1 + 3))), (.int .u64 (vget img l ((ifind (img.length : Int) gw gi gb n_).1 + 4))), (.int .u64 (vget img l ((ifind (img.length : Int) gw gi gb n_).1 + 5))), (.int .u64 (vget img l ((ifind (img.length : Int) gw gi gb n_).1 + 6))), (.int .u64 (vget img l ((ifind (img.length : Int) gw gi gb n_).1 + 7))), (.int .u64 (vget img l ((ifind (img.length : Int) gw gi gb n_).1 + 8))), (.int .u64 (vget img l ((ifind (img.length : Int) gw gi gb n_).1 + 9)))]) (by kernel_rfl) (cells_sub (hs137.heapAt 0 rfl) rfl)) ?_
    refine ops_call (pre := []) hs137 (by kernel_rfl) (right_spec (gw := gw) (gi := gi) (gb := gb) (x_ := ⟨(vget img l ((ifind (img.length : Int) gw gi gb n_).1 + 0)), (vget img l ((ifind (img.length : Int) gw gi gb n_).1 + 1)), (vget img l ((ifind (img.length : Int) gw gi gb n_).1 + 2)), (vget img l ((ifind (img.length : Int) gw gi gb n_).1 + 3)), (vget img l ((ifind (img.length : Int) gw gi gb n_).1 + 4)), (vget img l ((ifind (img.length : Int) gw gi gb n_).1 + 5)), (vget img l ((ifind (img.length : Int) gw gi gb n_).1 + 6)), (vget img l ((ifind (img.length : Int) gw gi gb n_).1 + 7)), (vget img l ((ifind (img.length : Int) gw gi gb n_).1 + 8)), (vget img l ((ifind (img.length : Int) gw gi gb n_).1 + 9))⟩) B _) ?_
    rintro _ _ w140 ⟨rfl, rfl⟩ hs141
    have hs142 : St B w [] w140 [blk b134 (.cells [(.int .u64 (vget img l ((ifind (img.length : Int) gw gi gb n_).1 + 0))), (.int .u64 (vget img l ((ifind (img.length : Int) gw gi gb n_).1 + 1))), (.int .u64 (vget img l ((ifind (img.length : Int) gw gi gb n_).1 + 2))), (.int .u64 (vget img l ((ifind (img.length : Int) gw gi gb n_).1 + 3))), (.int .u64 (vget img l ((ifind (img.length : Int) gw gi gb n_).1 + 4))), (.int .u64 (vget img l ((ifind (img.length : Int) gw gi gb n_).1 + 5))), (.int .u64 (vget img l ((ifind (img.length : Int) gw gi gb n_).1 + 6))), (.int .u64 (vget img l ((ifind (img.length : Int) gw gi gb n_).1 + 7))), (.int .u64 (vget img l ((ifind (img.length : Int) gw gi gb n_).1 + 8))), (.int .u64 (vget img l ((ifind (img.length : Int) gw gi gb n_).1 + 9)))].toArray 54 (0, 0)), blk b23 (.cells [(.int .u64 (vget img l ((ifind (img.length : Int) gw gi gb n_).1 + 0))), (.int .u64 (vget img l ((ifind (img.length : Int) gw gi gb n_).1 + 1))), (.int .u64 (vget img l ((ifind (img.length : Int) gw gi gb n_).1 + 2))), (.int .u64 (vget img l ((ifind (img.length : Int) gw gi gb n_).1 + 3))), (.int .u64 (vget img l ((ifind (img.length : Int) gw gi gb n_).1 + 4))), (.int .u64 (vget img l ((ifind (img.length : Int) gw gi gb n_).1 + 5))), (.int .u64 (vget img l ((ifind (img.length : Int) gw gi gb n_).1 + 6))), (.int .u64 (vget img l ((ifind (img.length : Int) gw gi gb n_).1 + 7))), (.int .u64 (vget img l ((ifind (img.length : Int) gw gi gb n_).1 + 8))), (.int .u64 (vget img l ((ifind (img.length : Int) gw gi gb n_).1 + 9)))].toArray 103 (0, 0)), blk b7 (.cells [(.int .u64 0), (.int .u64 0), (.int .u64 0), (.int .u64 0), (.int .u64 0), (.int .u64 0), (.int .u64 0), (.int .u64 0), (.int .u64 0), (.int .u64 0)].toArray 54 (0, 0)), blk b4 (.cells [(.int .i64 gw), (.int .i64 gi), (.int .i64 gb)].toArray 56 (0, 0))] := hs141
    refine ops_run 1 (by kernel_rfl) ?_
    refine ops_done (by kernel_rfl) ?_
    refine hK139 _ _ ?_
    clear hK139
    refine W.cond (!(decide (RightP gw gi gb ⟨(vget img l ((ifind (img.length : Int) gw gi gb n_).1 + 0)), (vget img l ((ifind (img.length : Int) gw gi gb n_).1 + 1)), (vget img l ((ifind (img.length : Int) gw gi gb n_).1 + 2)), (vget img l ((ifind (img.length : Int) gw gi gb n_).1 + 3)), (vget img l ((ifind (img.length : Int) gw gi gb n_).1 + 4)), (vget img l ((ifind (img.length : Int) gw gi gb n_).1 + 5)), (vget img l ((ifind (img.length : Int) gw gi gb n_).1 + 6)), (vget img l ((ifind (img.length : Int) gw gi gb n_).1 + 7)), (vget img l ((ifind (img.length : Int) gw gi gb n_).1 + 8)), (vget img l ((ifind (img.length : Int) gw gi gb n_).1 + 9))⟩))) (by kernel_rfl) (fun h143 => ?_) (fun h143 => ?_)
    ·
      have h143p : ¬ (RightP gw gi gb ⟨(vget img l ((ifind (img.length : Int) gw gi gb n_).1 + 0)), (vget img l ((ifind (img.length : Int) gw gi gb n_).1 + 1)), (vget img l ((ifind (img.length : Int) gw gi gb n_).1 + 2)), (vget img l ((ifind (img.length : Int) gw gi gb n_).1 + 3)), (vget img l ((ifind (img.length : Int) gw gi gb n_).1 + 4)), (vget img l ((ifind (img.length : Int) gw gi gb n_).1 + 5)), (vget img l ((ifind (img.length : Int) gw gi gb n_).1 + 6)), (vget img l ((ifind (img.length : Int) gw gi gb n_).1 + 7)), (vget img l ((ifind (img.length : Int) gw gi gb n_).1 + 8)), (vget img l ((ifind (img.length : Int) gw gi gb n_).1 + 9))⟩) := of_decide_eq_false (bnot_true h143)
      refine W.seq fun K144 hK144 => ?_
      refine W.region ?_
      refine ops_run 1 (by kernel_rfl) ?_
      have hs147 : St B w [] w140 [blk b7 (.cells [(.int .u64 0), (.int .u64 0), (.int .u64 0), (.int .u64 0), (.int .u64 0), (.int .u64 0), (.int .u64 0), (.int .u64 0), (.int .u64 0), (.int .u64 0)].toArray 54 (0, 0)), blk b134 (.cells [(.int .u64 (vget img l ((ifind (img.length : Int) gw gi gb n_).1 + 0))), (.int .u64 (vget img l ((ifind (img.length : Int) gw gi gb n_).1 + 1))), (.int .u64 (vget img l ((ifind (img.length : Int) gw gi gb n_).1 + 2))), (.int .u64 (vget img l ((ifind (img.length : Int) gw gi gb n_).1 + 3))), (.int .u64 (vget img l ((ifind (img.length : Int) gw gi gb n_).1 + 4))), (.int .u64 (vget img l ((ifind (img.length : Int) gw gi gb n_).1 + 5))), (.int .u64 (vget img l ((ifind (img.length : Int) gw gi gb n_).1 + 6))), (.int .u64 (vget img l ((ifind (img.length : Int) gw gi gb n_).1 + 7))), (.int .u64 (vget img l ((ifind (img.length : Int) gw gi gb n_).1 + 8))), (.int .u64 (vget img l ((ifind (img.length : Int) gw gi gb n_).1 + 9)))].toArray 54 (0, 0)), blk b23 (.cells [(.int .u64 (vget img l ((ifind (img.length : Int) gw gi gb n_).1 + 0))), (.int .u64 (vget img l ((ifind (img.length : Int) gw gi gb n_).1 + 1))), (.int .u64 (vget img l ((ifind (img.length : Int) gw gi gb n_).1 + 2))), (.int .u64 (vget img l ((ifind (img.length : Int) gw gi gb n_).1 + 3))), (.int .u64 (vget img l ((ifind (img.length : Int) gw gi gb n_).1 + 4))), (.int .u64 (vget img l ((ifind (img.length : Int) gw gi gb n_).1 + 5))), (.int .u64 (vget img l ((ifind (img.length : Int) gw gi gb n_).1 + 6))), (.int .u64 (vget img l ((ifind (img.length : Int) gw gi gb n_).1 + 7))), (.int .u64 (vget img l ((ifind (img.length : Int) gw gi gb n_).1 + 8))), (.int .u64 (vget img l ((ifind (img.length : Int) gw gi gb n_).1 + 9)))].toArray 103 (0, 0)), blk b4 (.cells [(.int .i64 gw), (.int .i64 gi), (.int .i64 gb)].toArray 56 (0, 0))] := hs142.front 2 (by simp)
      refine ops_store (off := 0) (cs := [(.int .u64 0), (.int .u64 0), (.int .u64 0), (.int .u64 0), (.int .u64 0), (.int .u64 0), (.int .u64 0), (.int .u64 0), (.int .u64 0), (.int .u64 0)]) (vs := [(.int .u64 0), (.int .u64 0), (.int .u64 0), (.int .u64 0), (.int .u64 0), (.int .u64 0), (.int .u64 0), (.int .u64 0), (.int .u64 0), (.int .u64 0)]) hs147 (by kernel_rfl) (by simp) rfl (fun w145 hs146 => ?_)
      have hs148 : St B w [] w145 [blk b7 (.cells [(.int .u64 0), (.int .u64 0), (.int .u64 0), (.int .u64 0), (.int .u64 0), (.int .u64 0), (.int .u64 0), (.int .u64 0), (.int .u64 0), (.int .u64 0)].toArray 54 (0, 0)), blk b134 (.cells [(.int .u64 (vget img l ((ifind (img.length : Int) gw gi gb n_).1 + 0))), (.int .u64 (vget img l ((ifind (img.length : Int) gw gi gb n_).1 + 1))), (.int .u64 (vget img l ((ifind (img.length : Int) gw gi gb n_).1 + 2))), (.int .u64 (vget img l ((ifind (img.length : Int) gw gi gb n_).1 + 3))), (.int .u64 (vget img l ((ifind (img.length : Int) gw gi gb n_).1 + 4))), (.int .u64 (vget img l ((ifind (img.length : Int) gw gi gb n_).1 + 5))), (.int .u64 (vget img l ((ifind (img.length : Int) gw gi gb n_).1 + 6))), (.int .u64 (vget img l ((ifind (img.length : Int) gw gi gb n_).1 + 7))), (.int .u64 (vget img l ((ifind (img.length : Int) gw gi gb n_).1 + 8))), (.int .u64 (vget img l ((ifind (img.length : Int) gw gi gb n_).1 + 9)))].toArray 54 (0, 0)), blk b23 (.cells [(.int .u64 (vget img l ((ifind (img.length : Int) gw gi gb n_).1 + 0))), (.int .u64 (vget img l ((ifind (img.length : Int) gw gi gb n_).1 + 1))), (.int .u64 (vget img l ((ifind (img.length : Int) gw gi gb n_).1 + 2))), (.int .u64 (vget img l ((ifind (img.length : Int) gw gi gb n_).1 + 3))), (.int .u64 (vget img l ((ifind (img.length : Int) gw gi gb n_).1 + 4))), (.int .u64 (vget img l ((ifind (img.length : Int) gw gi gb n_).1 + 5))), (.int .u64 (vget img l ((ifind (img.length : Int) gw gi gb n_).1 + 6))), (.int .u64 (vget img l ((ifind (img.length : Int) gw gi gb n_).1 + 7))), (.int .u64 (vget img l ((ifind (img.length : Int) gw gi gb n_).1 + 8))), (.int .u64 (vget img l ((ifind (img.length : Int) gw gi gb n_).1 + 9)))].toArray 103 (0, 0)), blk b4 (.cells [(.int .i64 gw), (.int .i64 gi), (.int .i64 gb)].toArray 56 (0, 0))] := hs146
      refine ops_run 1 (by kernel_rfl) ?_
      refine ops_done (by kernel_rfl) ?_
      refine hK144 _ _ ?_
      clear hK144
      refine W.ret (ret_seq ?_)
      have e_ : igetM img l gw gi gb n_ = (Nd.zero, 4) := by first | (exfalso; omega) | (simp only [igetM]; rw [if_pos (by assumption)]; exact if_neg (by assumption))
      have hs149 : St B w [] w145 [] := St.take (H := []) hs148
      refine ret_of (.tuple #[(.agg #[(.int .u64 0), (.int .u64 0), (.int .u64 0), (.int .u64 0), (.int .u64 0), (.int .u64 0), (.int .u64 0), (.int .u64 0), (.int .u64 0), (.int .u64 0)]), (.int .i64 4)]) (results_cell2 (ad := ⟨b7, 0, none⟩) (cs := [(.int .u64 0), (.int .u64 0), (.int .u64 0), (.int .u64 0), (.int .u64 0), (.int .u64 0), (.int .u64 0), (.int .u64 0), (.int .u64 0), (.int .u64 0)]) rfl (by kernel_rfl) (by kernel_rfl) (by kernel_rfl) (cells_sub (hs148.heapAt 0 rfl) rfl)) ⟨_, ⟨by rw [e_]; try rfl, rfl⟩, hs149⟩
    ·
      have h143p : RightP gw gi gb ⟨(vget img l ((ifind (img.length : Int) gw gi gb n_).1 + 0)), (vget img l ((ifind (img.length : Int) gw gi gb n_).1 + 1)), (vget img l ((ifind (img.length : Int) gw gi gb n_).1 + 2)), (vget img l ((ifind (img.length : Int) gw gi gb n_).1 + 3)), (vget img l ((ifind (img.length : Int) gw gi gb n_).1 + 4)), (vget img l ((ifind (img.length : Int) gw gi gb n_).1 + 5)), (vget img l ((ifind (img.length : Int) gw gi gb n_).1 + 6)), (vget img l ((ifind (img.length : Int) gw gi gb n_).1 + 7)), (vget img l ((ifind (img.length : Int) gw gi gb n_).1 + 8)), (vget img l ((ifind (img.length : Int) gw gi gb n_).1 + 9))⟩ := of_decide_eq_true (bnot_false h143)
      refine W.skip ?_
      refine hK138 _ _ ?_
      clear hK138
      refine W.seq fun K150 hK150 => ?_
      refine W.region ?_
      refine ops_R (runs_loadAgg (ad := ⟨b134, 0, none⟩) (cs := [(.int .u64 (vget img l ((ifind (img.length : Int) gw gi gb n_).1 + 0))), (.int .u64 (vget img l ((ifind (img.length : Int) gw gi gb n_).1 + 1))), (.int .u64 (vget img l ((ifind (img.length : Int) gw gi gb n_).1 + 2))), (.int .u64 (vget img l ((ifind (img.length : Int) gw gi gb n_).1 + 3))), (.int .u64 (vget img l ((ifind (img.length : Int) gw gi gb n_).1 + 4))), (.int .u64 (vget img l ((ifind (img.length : Int) gw gi gb n_).1 + 5))), (.int .u64 (vget img l ((ifind (img.length : Int) gw gi gb n_).1 + 6))), (.int .u64 (vget img l ((ifind (img.length : Int) gw gi gb n_).1 + 7))), (.int .u64 (vget img l ((ifind (img.length : Int) gw gi gb n_).1 + 8))), (.int .u64 (vget img l ((ifind (img.length : Int) gw gi gb n_).1 + 9)))]) (by kernel_rfl) (cells_sub (hs142.heapAt 0 rfl) rfl)) ?_
      have hs153 : St B w [] w140 [blk b7 (.cells [(.int .u64 0), (.int .u64 0), (.int .u64 0), (.int .u64 0), (.int .u64 0), (.int .u64 0), (.int .u64 0), (.int .u64 0), (.int .u64 0), (.int .u64 0)].toArray 54 (0, 0)), blk b134 (.cells [(.int .u64 (vget img l ((ifind (img.length : Int) gw gi gb n_).1 + 0))), (.int .u64 (vget img l ((ifind (img.length : Int) gw gi gb n_).1 + 1))), (.int .u64 (vget img l ((ifind (img.length : Int) gw gi gb n_).1 + 2))), (.int .u64 (vget img l ((ifind (img.length : Int) gw gi gb n_).1 + 3))), (.int .u64 (vget img l ((ifind (img.length : Int) gw gi gb n_).1 + 4))), (.int .u64 (vget img l ((ifind (img.length : Int) gw gi gb n_).1 + 5))), (.int .u64 (vget img l ((ifind (img.length : Int) gw gi gb n_).1 + 6))), (.int .u64 (vget img l ((ifind (img.length : Int) gw gi gb n_).1 + 7))), (.int .u64 (vget img l ((ifind (img.length : Int) gw gi gb n_).1 + 8))), (.int .u64 (vget img l ((ifind (img.length : Int) gw gi gb n_).1 + 9)))].toArray 54 (0, 0)), blk b23 (.cells [(.int .u64 (vget img l ((ifind (img.length : Int) gw gi gb n_).1 + 0))), (.int .u64 (vget img l ((ifind (img.length : Int) gw gi gb n_).1 + 1))), (.int .u64 (vget img l ((ifind (img.length : Int) gw gi gb n_).1 + 2))), (.int .u64 (vget img l ((ifind (img.length : Int) gw gi gb n_).1 + 3))), (.int .u64 (vget img l ((ifind (img.length : Int) gw gi gb n_).1 + 4))), (.int .u64 (vget img l ((ifind (img.length : Int) gw gi gb n_).1 + 5))), (.int .u64 (vget img l ((ifind (img.length : Int) gw gi gb n_).1 + 6))), (.int .u64 (vget img l ((ifind (img.length : Int) gw gi gb n_).1 + 7))), (.int .u64 (vget img l ((ifind (img.length : Int) gw gi gb n_).1 + 8))), (.int .u64 (vget img l ((ifind (img.length : Int) gw gi gb n_).1 + 9)))].toArray 103 (0, 0)), blk b4 (.cells [(.int .i64 gw), (.int .i64 gi), (.int .i64 gb)].toArray 56 (0, 0))] := hs142.front 2 (by simp)
      refine ops_store (off := 0) (cs := [(.int .u64 0), (.int .u64 0), (.int .u64 0), (.int .u64 0), (.int .u64 0), (.int .u64 0), (.int .u64 0), (.int .u64 0), (.int .u64 0), (.int .u64 0)]) (vs := [(.int .u64 (vget img l ((ifind (img.length : Int) gw gi gb n_).1 + 0))), (.int .u64 (vget img l ((ifind (img.length : Int) gw gi gb n_).1 + 1))), (.int .u64 (vget img l ((ifind (img.length : Int) gw gi gb n_).1 + 2))), (.int .u64 (vget img l ((ifind (img.length : Int) gw gi gb n_).1 + 3))), (.int .u64 (vget img l ((ifind (img.length : Int) gw gi gb n_).1 + 4))), (.int .u64 (vget img l ((ifind (img.length : Int) gw gi gb n_).1 + 5))), (.int .u64 (vget img l ((ifind (img.length : Int) gw gi gb n_).1 + 6))), (.int .u64 (vget img l ((ifind (img.length : Int) gw gi gb n_).1 + 7))), (.int .u64 (vget img l ((ifind (img.length : Int) gw gi gb n_).1 + 8))), (.int .u64 (vget img l ((ifind (img.length : Int) gw gi gb n_).1 + 9)))]) hs153 (by kernel_rfl) (by simp) rfl (fun w151 hs152 => ?_)
      have hs154 : St B w [] w151 [blk b7 (.cells [(.int .u64 (vget img l ((ifind (img.length : Int) gw gi gb n_).1 + 0))), (.int .u64 (vget img l ((ifind (img.length : Int) gw gi gb n_).1 + 1))), (.int .u64 (vget img l ((ifind (img.length : Int) gw gi gb n_).1 + 2))), (.int .u64 (vget img l ((ifind (img.length : Int) gw gi gb n_).1 + 3))), (.int .u64 (vget img l ((ifind (img.length : Int) gw gi gb n_).1 + 4))), (.int .u64 (vget img l ((ifind (img.length : Int) gw gi gb n_).1 + 5))), (.int .u64 (vget img l ((ifind (img.length : Int) gw gi gb n_).1 + 6))), (.int .u64 (vget img l ((ifind (img.length : Int) gw gi gb n_).1 + 7))), (.int .u64 (vget img l ((ifind (img.length : Int) gw gi gb n_).1 + 8))), (.int .u64 (vget img l ((ifind (img.length : Int) gw gi gb n_).1 + 9)))].toArray 54 (0, 0)), blk b134 (.cells [(.int .u64 (vget img l ((ifind (img.length : Int) gw gi gb n_).1 + 0))), (.int .u64 (vget img l ((ifind (img.length : Int) gw gi gb n_).1 + 1))), (.int .u64 (vget img l ((ifind (img.length : Int) gw gi gb n_).1 + 2))), (.int .u64 (vget img l ((ifind (img.length : Int) gw gi gb n_).1 + 3))), (.int .u64 (vget img l ((ifind (img.length : Int) gw gi gb n_).1 + 4))), (.int .u64 (vget img l ((ifind (img.length : Int) gw gi gb n_).1 + 5))), (.int .u64 (vget img l ((ifind (img.length : Int) gw gi gb n_).1 + 6))), (.int .u64 (vget img l ((ifind (img.length : Int) gw gi gb n_).1 + 7))), (.int .u64 (vget img l ((ifind (img.length : Int) gw gi gb n_).1 + 8))), (.int .u64 (vget img l ((ifind (img.length : Int) gw gi gb n_).1 + 9)))].toArray 54 (0, 0)), blk b23 (.cells [(.int .u64 (vget img l ((ifind (img.length : Int) gw gi gb n_).1 + 0))), (.int .u64 (vget img l ((ifind (img.length : Int) gw gi gb n_).1 + 1))), (.int .u64 (vget img l ((ifind (img.length : Int) gw gi gb n_).1 + 2))), (.int .u64 (vget img l ((ifind (img.length : Int) gw gi gb n_).1 + 3))), (.int .u64 (vget img l ((ifind (img.length : Int) gw gi gb n_).1 + 4))), (.int .u64 (vget img l ((ifind (img.length : Int) gw gi gb n_).1 + 5))), (.int .u64 (vget img l ((ifind (img.length : Int) gw gi gb n_).1 + 6))), (.int .u64 (vget img l ((ifind (img.length : Int) gw gi gb n_).1 + 7))), (.int .u64 (vget img l ((ifind (img.length : Int) gw gi gb n_).1 + 8))), (.int .u64 (vget img l ((ifind (img.length : Int) gw gi gb n_).1 + 9)))].toArray 103 (0, 0)), blk b4 (.cells [(.int .i64 gw), (.int .i64 gi), (.int .i64 gb)].toArray 56 (0, 0))] := hs152
      refine ops_run 1 (by kernel_rfl) ?_
      refine ops_done (by kernel_rfl) ?_
      refine hK150 _ _ ?_
      clear hK150
      refine W.ret ?_
      have e_ : igetM img l gw gi gb n_ = (ndAt img l (ifind (img.length : Int) gw gi gb n_).1, 0) := by first | (exfalso; omega) | (simp only [igetM]; rw [if_pos (by assumption)]; exact if_pos (by assumption))
      have hs155 : St B w [] w151 [] := St.take (H := []) hs154
      refine ret_of (.tuple #[(.agg #[(.int .u64 (vget img l ((ifind (img.length : Int) gw gi gb n_).1 + 0))), (.int .u64 (vget img l ((ifind (img.length : Int) gw gi gb n_).1 + 1))), (.int .u64 (vget img l ((ifind (img.length : Int) gw gi gb n_).1 + 2))), (.int .u64 (vget img l ((ifind (img.length : Int) gw gi gb n_).1 + 3))), (.int .u64 (vget img l ((ifind (img.length : Int) gw gi gb n_).1 + 4))), (.int .u64 (vget img l ((ifind (img.length : Int) gw gi gb n_).1 + 5))), (.int .u64 (vget img l ((ifind (img.length : Int) gw gi gb n_).1 + 6))), (.int .u64 (vget img l ((ifind (img.length : Int) gw gi gb n_).1 + 7))), (.int .u64 (vget img l ((ifind (img.length : Int) gw gi gb n_).1 + 8))), (.int .u64 (vget img l ((ifind (img.length : Int) gw gi gb n_).1 + 9)))]), (.int .i64 0)]) (results_cell2 (ad := ⟨b7, 0, none⟩) (cs := [(.int .u64 (vget img l ((ifind (img.length : Int) gw gi gb n_).1 + 0))), (.int .u64 (vget img l ((ifind (img.length : Int) gw gi gb n_).1 + 1))), (.int .u64 (vget img l ((ifind (img.length : Int) gw gi gb n_).1 + 2))), (.int .u64 (vget img l ((ifind (img.length : Int) gw gi gb n_).1 + 3))), (.int .u64 (vget img l ((ifind (img.length : Int) gw gi gb n_).1 + 4))), (.int .u64 (vget img l ((ifind (img.length : Int) gw gi gb n_).1 + 5))), (.int .u64 (vget img l ((ifind (img.length : Int) gw gi gb n_).1 + 6))), (.int .u64 (vget img l ((ifind (img.length : Int) gw gi gb n_).1 + 7))), (.int .u64 (vget img l ((ifind (img.length : Int) gw gi gb n_).1 + 8))), (.int .u64 (vget img l ((ifind (img.length : Int) gw gi gb n_).1 + 9)))]) rfl (by kernel_rfl) (by kernel_rfl) (by kernel_rfl) (cells_sub (hs154.heapAt 0 rfl) rfl)) ⟨_, ⟨by rw [e_]; try rfl, rfl⟩, hs155⟩

end Go.Proofs.Ythimamnblklkbaa
