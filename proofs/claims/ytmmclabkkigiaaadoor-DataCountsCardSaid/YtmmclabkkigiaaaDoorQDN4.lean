/- Texts, one behind the other: F6h, A3a, A3b, A3c, A3d, A3e, A3f, A3g, A3h, F3a, A3i, PBa. -/
import Derived.Test.YtmmclabkkigiaaaDoorQDN3
set_option linter.unusedVariables false
set_option linter.unusedSimpArgs false
set_option maxRecDepth 20000
set_option maxHeartbeats 2000000
namespace Go.Proofs.YtmmclabkkigiaaaDoor
open Go Go.RowKit
set_option linter.unusedSimpArgs false
set_option linter.unusedVariables false

theorem ig_spec {b : Nat} {img : List Int} {l : List (Int × Int)} {gw gi gb n_ : Int} (B : Nat) (w : World) (hv : ViewAt (ptr b) img l w) : Spec Tryd.prog 39 #[(.pointer (some ⟨b, 0, none⟩)), (.agg #[(.int .i64 gw), (.int .i64 gi), (.int .i64 gb)]), (.int .i64 n_)] B w [] (fun v H' => v = (.tuple #[(.agg #[(.int .u64 ((igetM img l gw gi gb n_).1.k)), (.int .u64 ((igetM img l gw gi gb n_).1.l)), (.int .u64 ((igetM img l gw gi gb n_).1.o)), (.int .u64 ((igetM img l gw gi gb n_).1.s)), (.int .u64 ((igetM img l gw gi gb n_).1.a)), (.int .u64 ((igetM img l gw gi gb n_).1.b)), (.int .u64 ((igetM img l gw gi gb n_).1.c)), (.int .u64 ((igetM img l gw gi gb n_).1.d)), (.int .u64 ((igetM img l gw gi gb n_).1.e)), (.int .u64 ((igetM img l gw gi gb n_).1.m))]), (.int .i64 ((igetM img l gw gi gb n_).2))]) ∧ H' = []) := by
 refine spec_Q Tryd.func39 rfl fun hs => ?_
 have hrg := ifind_range (img.length : Int) gw gi gb n_
 refine W.sr fun K1 hK1 => ?_
 refine zN [(.int .i64 gw), (.int .i64 gi), (.int .i64 gb)] 23 hs fun b4 w2 hs3 => ?_
 refine zN [(.int .u64 0), (.int .u64 0), (.int .u64 0), (.int .u64 0), (.int .u64 0), (.int .u64 0), (.int .u64 0), (.int .u64 0), (.int .u64 0), (.int .u64 0)] 78 hs3 fun b7 w5 hs6 => ?_
 refine zE 1 (hK1 _ _ ?_)
 refine W.sr fun K8 hK8 => ?_
 refine zR 1 ?_
 refine ops_R (runs_loadAgg (ad := ⟨b4, 0, none⟩) (cs := [(.int .i64 gw), (.int .i64 gi), (.int .i64 gb)]) (by kernel_rfl) (cells_sub (hs6.heapAt 1 rfl) rfl)) ?_
 refine zR 1 ?_
 refine zC00 hs6 (ifind_spec (gw := gw) (gi := gi) (gb := gb) (n_ := n_) (hv := (viewAt_old hs6 hv)) B _) fun w9 hs11 => ?_
 refine zE 5 (hK8 _ _ ?_)
 refine W.seq fun K12 hK12 => ?_
 refine W.sr fun K13 hK13 => ?_
 refine zE 2 (hK13 _ _ ?_)
 refine W.cond (!decide ((ifind (img.length : Int) gw gi gb n_).2 = 0)) (by kernel_rfl) (fun h14 => ?_) (fun h14 => ?_)
 ·
  have h14p : ¬ ((ifind (img.length : Int) gw gi gb n_).2 = 0) := of_decide_eq_false (bnot_true h14)
  refine W.sr fun K15 hK15 => ?_
  refine zR 2 ?_
  refine ops_store (off := 0) (cs := [(.int .u64 0), (.int .u64 0), (.int .u64 0), (.int .u64 0), (.int .u64 0), (.int .u64 0), (.int .u64 0), (.int .u64 0), (.int .u64 0), (.int .u64 0)]) (vs := [(.int .u64 0), (.int .u64 0), (.int .u64 0), (.int .u64 0), (.int .u64 0), (.int .u64 0), (.int .u64 0), (.int .u64 0), (.int .u64 0), (.int .u64 0)]) hs11 (by kernel_rfl) (by simp) rfl (fun w16 hs17 => ?_)
  have hs18 : St B w [] w16 [blk b7 (.cells [(.int .u64 0), (.int .u64 0), (.int .u64 0), (.int .u64 0), (.int .u64 0), (.int .u64 0), (.int .u64 0), (.int .u64 0), (.int .u64 0), (.int .u64 0)].toArray 78 (0, 0)), blk b4 (.cells [(.int .i64 gw), (.int .i64 gi), (.int .i64 gb)].toArray 23 (0, 0))] := hs17
  refine zE 1 (hK15 _ _ ?_)
  refine W.ret (ret_seq ?_)
  have e_ : igetM img l gw gi gb n_ = (Nd.zero, (ifind (img.length : Int) gw gi gb n_).2) := by first | (exfalso; omega) | (simp only [igetM]; exact if_neg (by assumption))
  have hs19 := St.tk0 hs18
  refine ret_of (.tuple #[(.agg #[(.int .u64 0), (.int .u64 0), (.int .u64 0), (.int .u64 0), (.int .u64 0), (.int .u64 0), (.int .u64 0), (.int .u64 0), (.int .u64 0), (.int .u64 0)]), (.int .i64 ((ifind (img.length : Int) gw gi gb n_).2))]) (results_cell2 (ad := ⟨b7, 0, none⟩) (cs := [(.int .u64 0), (.int .u64 0), (.int .u64 0), (.int .u64 0), (.int .u64 0), (.int .u64 0), (.int .u64 0), (.int .u64 0), (.int .u64 0), (.int .u64 0)]) rfl (by kernel_rfl) (by kernel_rfl) (by kernel_rfl) (cells_sub (hs18.heapAt 0 rfl) rfl)) ⟨_, ⟨by rw [e_]; try rfl, rfl⟩, hs19⟩
 ·
  have h14p : (ifind (img.length : Int) gw gi gb n_).2 = 0 := of_decide_eq_true (bnot_false h14)
  refine W.skip ?_
  refine hK12 _ _ ?_
  refine W.sr fun K20 hK20 => ?_
  refine zN [(.int .u64 0), (.int .u64 0), (.int .u64 0), (.int .u64 0), (.int .u64 0), (.int .u64 0), (.int .u64 0), (.int .u64 0), (.int .u64 0), (.int .u64 0)] 128 hs11 fun b23 w21 hs22 => ?_
  refine zD (hK20 _ _ ?_)
  refine W.seq fun K24 hK24 => ?_
  refine W.sr fun K25 hK25 => ?_
  refine zE 1 (hK25 _ _ ?_)
  refine W.block ?_
  refine W.loop_start ?_
  refine loopAt_round ?_
  refine W.sr fun K26 hK26 => ?_
  refine zE 1 (hK26 _ _ ?_)
  refine W.seq fun K27 hK27 => ?_
  refine W.cond_true true (by kernel_rfl) rfl ?_
  refine W.skip ?_
  refine hK27 _ _ ?_
  refine W.seq fun K28 hK28 => ?_
  refine W.block ?_
  refine W.sr fun K29 hK29 => ?_
  refine zE 2 (hK29 _ _ ?_)
  refine W.region ?_
  refine zR 4 ?_
  refine zI ((ifind (img.length : Int) gw gi gb n_).1 + 0) (wrap_i64 (by omega) (by omega)) ?_
  refine zC00 hs22 (get_spec (at_ := ((ifind (img.length : Int) gw gi gb n_).1 + 0)) (hv := (viewAt_old hs22 hv)) B _) fun w30 hs32 => ?_
  refine zR 1 ?_
  refine ops_store (off := 0) (cs := [(.int .u64 0), (.int .u64 0), (.int .u64 0), (.int .u64 0), (.int .u64 0), (.int .u64 0), (.int .u64 0), (.int .u64 0), (.int .u64 0), (.int .u64 0)]) (vs := [(.int .u64 (vget img l ((ifind (img.length : Int) gw gi gb n_).1 + 0)))]) hs32 (by kernel_rfl) (by simp) rfl (fun w33 hs34 => ?_)
  have hs35 : St B w [] w33 [blk b23 (.cells [(.int .u64 (vget img l ((ifind (img.length : Int) gw gi gb n_).1 + 0))), (.int .u64 0), (.int .u64 0), (.int .u64 0), (.int .u64 0), (.int .u64 0), (.int .u64 0), (.int .u64 0), (.int .u64 0), (.int .u64 0)].toArray 128 (0, 0)), blk b7 (.cells [(.int .u64 0), (.int .u64 0), (.int .u64 0), (.int .u64 0), (.int .u64 0), (.int .u64 0), (.int .u64 0), (.int .u64 0), (.int .u64 0), (.int .u64 0)].toArray 78 (0, 0)), blk b4 (.cells [(.int .i64 gw), (.int .i64 gi), (.int .i64 gb)].toArray 23 (0, 0))] := hs34
  refine zD ?_
  refine normal_block ?_
  refine hK28 _ _ ?_
  refine W.region ?_
  refine zE 2 ?_
  refine loopAt_next ?_
  refine loopAt_round ?_
  refine W.sr fun K36 hK36 => ?_
  refine zE 1 (hK36 _ _ ?_)
  refine W.seq fun K37 hK37 => ?_
  refine W.cond_true true (by kernel_rfl) rfl ?_
  refine W.skip ?_
  refine hK37 _ _ ?_
  refine W.seq fun K38 hK38 => ?_
  refine W.block ?_
  refine W.sr fun K39 hK39 => ?_
  refine zE 2 (hK39 _ _ ?_)
  refine W.region ?_
  refine zR 4 ?_
  refine zI ((ifind (img.length : Int) gw gi gb n_).1 + 1) (wrap_i64 (by omega) (by omega)) ?_
  refine zC00 hs35 (get_spec (at_ := ((ifind (img.length : Int) gw gi gb n_).1 + 1)) (hv := (viewAt_old hs35 hv)) B _) fun w40 hs42 => ?_
  refine zR 1 ?_
  refine ops_store (off := 1) (cs := [(.int .u64 (vget img l ((ifind (img.length : Int) gw gi gb n_).1 + 0))), (.int .u64 0), (.int .u64 0), (.int .u64 0), (.int .u64 0), (.int .u64 0), (.int .u64 0), (.int .u64 0), (.int .u64 0), (.int .u64 0)]) (vs := [(.int .u64 (vget img l ((ifind (img.length : Int) gw gi gb n_).1 + 1)))]) hs42 (by kernel_rfl) (by simp) rfl (fun w43 hs44 => ?_)
  have hs45 : St B w [] w43 [blk b23 (.cells [(.int .u64 (vget img l ((ifind (img.length : Int) gw gi gb n_).1 + 0))), (.int .u64 (vget img l ((ifind (img.length : Int) gw gi gb n_).1 + 1))), (.int .u64 0), (.int .u64 0), (.int .u64 0), (.int .u64 0), (.int .u64 0), (.int .u64 0), (.int .u64 0), (.int .u64 0)].toArray 128 (0, 0)), blk b7 (.cells [(.int .u64 0), (.int .u64 0), (.int .u64 0), (.int .u64 0), (.int .u64 0), (.int .u64 0), (.int .u64 0), (.int .u64 0), (.int .u64 0), (.int .u64 0)].toArray 78 (0, 0)), blk b4 (.cells [(.int .i64 gw), (.int .i64 gi), (.int .i64 gb)].toArray 23 (0, 0))] := hs44
  refine zD ?_
  refine normal_block ?_
  refine hK38 _ _ ?_
  refine W.region ?_
  refine zE 2 ?_
  refine loopAt_next ?_
  refine loopAt_round ?_
  refine W.sr fun K46 hK46 => ?_
  refine zE 1 (hK46 _ _ ?_)
  refine W.seq fun K47 hK47 => ?_
  refine W.cond_true true (by kernel_rfl) rfl ?_
  refine W.skip ?_
  refine hK47 _ _ ?_
  refine W.seq fun K48 hK48 => ?_
  refine W.block ?_
  refine W.sr fun K49 hK49 => ?_
  refine zE 2 (hK49 _ _ ?_)
  refine W.region ?_
  refine zR 4 ?_
  refine zI ((ifind (img.length : Int) gw gi gb n_).1 + 2) (wrap_i64 (by omega) (by omega)) ?_
  refine zC00 hs45 (get_spec (at_ := ((ifind (img.length : Int) gw gi gb n_).1 + 2)) (hv := (viewAt_old hs45 hv)) B _) fun w50 hs52 => ?_
  refine zR 1 ?_
  refine ops_store (off := 2) (cs := [(.int .u64 (vget img l ((ifind (img.length : Int) gw gi gb n_).1 + 0))), (.int .u64 (vget img l ((ifind (img.length : Int) gw gi gb n_).1 + 1))), (.int .u64 0), (.int .u64 0), (.int .u64 0), (.int .u64 0), (.int .u64 0), (.int .u64 0), (.int .u64 0), (.int .u64 0)]) (vs := [(.int .u64 (vget img l ((ifind (img.length : Int) gw gi gb n_).1 + 2)))]) hs52 (by kernel_rfl) (by simp) rfl (fun w53 hs54 => ?_)
  have hs55 : St B w [] w53 [blk b23 (.cells [(.int .u64 (vget img l ((ifind (img.length : Int) gw gi gb n_).1 + 0))), (.int .u64 (vget img l ((ifind (img.length : Int) gw gi gb n_).1 + 1))), (.int .u64 (vget img l ((ifind (img.length : Int) gw gi gb n_).1 + 2))), (.int .u64 0), (.int .u64 0), (.int .u64 0), (.int .u64 0), (.int .u64 0), (.int .u64 0), (.int .u64 0)].toArray 128 (0, 0)), blk b7 (.cells [(.int .u64 0), (.int .u64 0), (.int .u64 0), (.int .u64 0), (.int .u64 0), (.int .u64 0), (.int .u64 0), (.int .u64 0), (.int .u64 0), (.int .u64 0)].toArray 78 (0, 0)), blk b4 (.cells [(.int .i64 gw), (.int .i64 gi), (.int .i64 gb)].toArray 23 (0, 0))] := hs54
  refine zD ?_
  refine normal_block ?_
  refine hK48 _ _ ?_
  refine W.region ?_
  refine zE 2 ?_
  refine loopAt_next ?_
  refine loopAt_round ?_
  refine W.sr fun K56 hK56 => ?_
  refine zE 1 (hK56 _ _ ?_)
  refine W.seq fun K57 hK57 => ?_
  refine W.cond_true true (by kernel_rfl) rfl ?_
  refine W.skip ?_
  refine hK57 _ _ ?_
  refine W.seq fun K58 hK58 => ?_
  refine W.block ?_
  refine W.sr fun K59 hK59 => ?_
  refine zE 2 (hK59 _ _ ?_)
  refine W.region ?_
  refine zR 4 ?_
  refine zI ((ifind (img.length : Int) gw gi gb n_).1 + 3) (wrap_i64 (by omega) (by omega)) ?_
  refine zC00 hs55 (get_spec (at_ := ((ifind (img.length : Int) gw gi gb n_).1 + 3)) (hv := (viewAt_old hs55 hv)) B _) fun w60 hs62 => ?_
  refine zR 1 ?_
  refine ops_store (off := 3) (cs := [(.int .u64 (vget img l ((ifind (img.length : Int) gw gi gb n_).1 + 0))), (.int .u64 (vget img l ((ifind (img.length : Int) gw gi gb n_).1 + 1))), (.int .u64 (vget img l ((ifind (img.length : Int) gw gi gb n_).1 + 2))), (.int .u64 0), (.int .u64 0), (.int .u64 0), (.int .u64 0), (.int .u64 0), (.int .u64 0), (.int .u64 0)]) (vs := [(.int .u64 (vget img l ((ifind (img.length : Int) gw gi gb n_).1 + 3)))]) hs62 (by kernel_rfl) (by simp) rfl (fun w63 hs64 => ?_)
  have hs65 : St B w [] w63 [blk b23 (.cells [(.int .u64 (vget img l ((ifind (img.length : Int) gw gi gb n_).1 + 0))), (.int .u64 (vget img l ((ifind (img.length : Int) gw gi gb n_).1 + 1))), (.int .u64 (vget img l ((ifind (img.length : Int) gw gi gb n_).1 + 2))), (.int .u64 (vget img l ((ifind (img.length : Int) gw gi gb n_).1 + 3))), (.int .u64 0), (.int .u64 0), (.int .u64 0), (.int .u64 0), (.int .u64 0), (.int .u64 0)].toArray 128 (0, 0)), blk b7 (.cells [(.int .u64 0), (.int .u64 0), (.int .u64 0), (.int .u64 0), (.int .u64 0), (.int .u64 0), (.int .u64 0), (.int .u64 0), (.int .u64 0), (.int .u64 0)].toArray 78 (0, 0)), blk b4 (.cells [(.int .i64 gw), (.int .i64 gi), (.int .i64 gb)].toArray 23 (0, 0))] := hs64
  refine zD ?_
  refine normal_block ?_
  refine hK58 _ _ ?_
  refine W.region ?_
  refine zE 2 ?_
  refine loopAt_next ?_
  refine loopAt_round ?_
  refine W.sr fun K66 hK66 => ?_
  refine zE 1 (hK66 _ _ ?_)
  refine W.seq fun K67 hK67 => ?_
  refine W.cond_true true (by kernel_rfl) rfl ?_
  refine W.skip ?_
  refine hK67 _ _ ?_
  refine W.seq fun K68 hK68 => ?_
  refine W.block ?_
  refine W.sr fun K69 hK69 => ?_
  refine zE 2 (hK69 _ _ ?_)
  refine W.region ?_
  refine zR 4 ?_
  refine zI ((ifind (img.length : Int) gw gi gb n_).1 + 4) (wrap_i64 (by omega) (by omega)) ?_
  refine zC00 hs65 (get_spec (at_ := ((ifind (img.length : Int) gw gi gb n_).1 + 4)) (hv := (viewAt_old hs65 hv)) B _) fun w70 hs72 => ?_
  refine zR 1 ?_
  refine ops_store (off := 4) (cs := [(.int .u64 (vget img l ((ifind (img.length : Int) gw gi gb n_).1 + 0))), (.int .u64 (vget img l ((ifind (img.length : Int) gw gi gb n_).1 + 1))), (.int .u64 (vget img l ((ifind (img.length : Int) gw gi gb n_).1 + 2))), (.int .u64 (vget img l ((ifind (img.length : Int) gw gi gb n_).1 + 3))), (.int .u64 0), (.int .u64 0), (.int .u64 0), (.int .u64 0), (.int .u64 0), (.int .u64 0)]) (vs := [(.int .u64 (vget img l ((ifind (img.length : Int) gw gi gb n_).1 + 4)))]) hs72 (by kernel_rfl) (by simp) rfl (fun w73 hs74 => ?_)
  have hs75 : St B w [] w73 [blk b23 (.cells [(.int .u64 (vget img l ((ifind (img.length : Int) gw gi gb n_).1 + 0))), (.int .u64 (vget img l ((ifind (img.length : Int) gw gi gb n_).1 + 1))), (.int .u64 (vget img l ((ifind (img.length : Int) gw gi gb n_).1 + 2))), (.int .u64 (vget img l ((ifind (img.length : Int) gw gi gb n_).1 + 3))), (.int .u64 (vget img l ((ifind (img.length : Int) gw gi gb n_).1 + 4))), (.int .u64 0), (.int .u64 0), (.int .u64 0), (.int .u64 0), (.int .u64 0)].toArray 128 (0, 0)), blk b7 (.cells [(.int .u64 0), (.int .u64 0), (.int .u64 0), (.int .u64 0), (.int .u64 0), (.int .u64 0), (.int .u64 0), (.int .u64 0), (.int .u64 0), (.int .u64 0)].toArray 78 (0, 0)), blk b4 (.cells [(.int .i64 gw), (.int .i64 gi), (.int .i64 gb)].toArray 23 (0, 0))] := hs74
  refine zD ?_
  refine normal_block ?_
  refine hK68 _ _ ?_
  refine W.region ?_
  refine zE 2 ?_
  refine loopAt_next ?_
  refine loopAt_round ?_
  refine W.sr fun K76 hK76 => ?_
  refine zE 1 (hK76 _ _ ?_)
  refine W.seq fun K77 hK77 => ?_
  refine W.cond_true true (by kernel_rfl) rfl ?_
  refine W.skip ?_
  refine hK77 _ _ ?_
  refine W.seq fun K78 hK78 => ?_
  refine W.block ?_
  refine W.sr fun K79 hK79 => ?_
  refine zE 2 (hK79 _ _ ?_)
  refine W.region ?_
  refine zR 4 ?_
  refine zI ((ifind (img.length : Int) gw gi gb n_).1 + 5) (wrap_i64 (by omega) (by omega)) ?_
  refine zC00 hs75 (get_spec (at_ := ((ifind (img.length : Int) gw gi gb n_).1 + 5)) (hv := (viewAt_old hs75 hv)) B _) fun w80 hs82 => ?_
  refine zR 1 ?_
  refine ops_store (off := 5) (cs := [(.int .u64 (vget img l ((ifind (img.length : Int) gw gi gb n_).1 + 0))), (.int .u64 (vget img l ((ifind (img.length : Int) gw gi gb n_).1 + 1))), (.int .u64 (vget img l ((ifind (img.length : Int) gw gi gb n_).1 + 2))), (.int .u64 (vget img l ((ifind (img.length : Int) gw gi gb n_).1 + 3))), (.int .u64 (vget img l ((ifind (img.length : Int) gw gi gb n_).1 + 4))), (.int .u64 0), (.int .u64 0), (.int .u64 0), (.int .u64 0), (.int .u64 0)]) (vs := [(.int .u64 (vget img l ((ifind (img.length : Int) gw gi gb n_).1 + 5)))]) hs82 (by kernel_rfl) (by simp) rfl (fun w83 hs84 => ?_)
  have hs85 : St B w [] w83 [blk b23 (.cells [(.int .u64 (vget img l ((ifind (img.length : Int) gw gi gb n_).1 + 0))), (.int .u64 (vget img l ((ifind (img.length : Int) gw gi gb n_).1 + 1))), (.int .u64 (vget img l ((ifind (img.length : Int) gw gi gb n_).1 + 2))), (.int .u64 (vget img l ((ifind (img.length : Int) gw gi gb n_).1 + 3))), (.int .u64 (vget img l ((ifind (img.length : Int) gw gi gb n_).1 + 4))), (.int .u64 (vget img l ((ifind (img.length : Int) gw gi gb n_).1 + 5))), (.int .u64 0), (.int .u64 0), (.int .u64 0), (.int .u64 0)].toArray 128 (0, 0)), blk b7 (.cells [(.int .u64 0), (.int .u64 0), (.int .u64 0), (.int .u64 0), (.int .u64 0), (.int .u64 0), (.int .u64 0), (.int .u64 0), (.int .u64 0), (.int .u64 0)].toArray 78 (0, 0)), blk b4 (.cells [(.int .i64 gw), (.int .i64 gi), (.int .i64 gb)].toArray 23 (0, 0))] := hs84
  refine zD ?_
  refine normal_block ?_
  refine hK78 _ _ ?_
  refine W.region ?_
  refine zE 2 ?_
  refine loopAt_next ?_
  refine loopAt_round ?_
  refine W.sr fun K86 hK86 => ?_
  refine zE 1 (hK86 _ _ ?_)
  refine W.seq fun K87 hK87 => ?_
  refine W.cond_true true (by kernel_rfl) rfl ?_
  refine W.skip ?_
  refine hK87 _ _ ?_
  refine W.seq fun K88 hK88 => ?_
  refine W.block ?_
  refine W.sr fun K89 hK89 => ?_
  refine zE 2 (hK89 _ _ ?_)
  refine W.region ?_
  refine zR 4 ?_
  refine zI ((ifind (img.length : Int) gw gi gb n_).1 + 6) (wrap_i64 (by omega) (by omega)) ?_
  refine zC00 hs85 (get_spec (at_ := ((ifind (img.length : Int) gw gi gb n_).1 + 6)) (hv := (viewAt_old hs85 hv)) B _) fun w90 hs92 => ?_
  refine zR 1 ?_
  refine ops_store (off := 6) (cs := [(.int .u64 (vget img l ((ifind (img.length : Int) gw gi gb n_).1 + 0))), (.int .u64 (vget img l ((ifind (img.length : Int) gw gi gb n_).1 + 1))), (.int .u64 (vget img l ((ifind (img.length : Int) gw gi gb n_).1 + 2))), (.int .u64 (vget img l ((ifind (img.length : Int) gw gi gb n_).1 + 3))), (.int .u64 (vget img l ((ifind (img.length : Int) gw gi gb n_).1 + 4))), (.int .u64 (vget img l ((ifind (img.length : Int) gw gi gb n_).1 + 5))), (.int .u64 0), (.int .u64 0), (.int .u64 0), (.int .u64 0)]) (vs := [(.int .u64 (vget img l ((ifind (img.length : Int) gw gi gb n_).1 + 6)))]) hs92 (by kernel_rfl) (by simp) rfl (fun w93 hs94 => ?_)
  have hs95 : St B w [] w93 [blk b23 (.cells [(.int .u64 (vget img l ((ifind (img.length : Int) gw gi gb n_).1 + 0))), (.int .u64 (vget img l ((ifind (img.length : Int) gw gi gb n_).1 + 1))), (.int .u64 (vget img l ((ifind (img.length : Int) gw gi gb n_).1 + 2))), (.int .u64 (vget img l ((ifind (img.length : Int) gw gi gb n_).1 + 3))), (.int .u64 (vget img l ((ifind (img.length : Int) gw gi gb n_).1 + 4))), (.int .u64 (vget img l ((ifind (img.length : Int) gw gi gb n_).1 + 5))), (.int .u64 (vget img l ((ifind (img.length : Int) gw gi gb n_).1 + 6))), (.int .u64 0), (.int .u64 0), (.int .u64 0)].toArray 128 (0, 0)), blk b7 (.cells [(.int .u64 0), (.int .u64 0), (.int .u64 0), (.int .u64 0), (.int .u64 0), (.int .u64 0), (.int .u64 0), (.int .u64 0), (.int .u64 0), (.int .u64 0)].toArray 78 (0, 0)), blk b4 (.cells [(.int .i64 gw), (.int .i64 gi), (.int .i64 gb)].toArray 23 (0, 0))] := hs94
  refine zD ?_
  refine normal_block ?_
  refine hK88 _ _ ?_
  refine W.region ?_
  refine zE 2 ?_
  refine loopAt_next ?_
  refine loopAt_round ?_
  refine W.sr fun K96 hK96 => ?_
  refine zE 1 (hK96 _ _ ?_)
  refine W.seq fun K97 hK97 => ?_
  refine W.cond_true true (by kernel_rfl) rfl ?_
  refine W.skip ?_
  refine hK97 _ _ ?_
  refine W.seq fun K98 hK98 => ?_
  refine W.block ?_
  refine W.sr fun K99 hK99 => ?_
  refine zE 2 (hK99 _ _ ?_)
  refine W.region ?_
  refine zR 4 ?_
  refine zI ((ifind (img.length : Int) gw gi gb n_).1 + 7) (wrap_i64 (by omega) (by omega)) ?_
  refine zC00 hs95 (get_spec (at_ := ((ifind (img.length : Int) gw gi gb n_).1 + 7)) (hv := (viewAt_old hs95 hv)) B _) fun w100 hs102 => ?_
  refine zR 1 ?_
  refine ops_store (off := 7) (cs := [(.int .u64 (vget img l ((ifind (img.length : Int) gw gi gb n_).1 + 0))), (.int .u64 (vget img l ((ifind (img.length : Int) gw gi gb n_).1 + 1))), (.int .u64 (vget img l ((ifind (img.length : Int) gw gi gb n_).1 + 2))), (.int .u64 (vget img l ((ifind (img.length : Int) gw gi gb n_).1 + 3))), (.int .u64 (vget img l ((ifind (img.length : Int) gw gi gb n_).1 + 4))), (.int .u64 (vget img l ((ifind (img.length : Int) gw gi gb n_).1 + 5))), (.int .u64 (vget img l ((ifind (img.length : Int) gw gi gb n_).1 + 6))), (.int .u64 0), (.int .u64 0), (.int .u64 0)]) (vs := [(.int .u64 (vget img l ((ifind (img.length : Int) gw gi gb n_).1 + 7)))]) hs102 (by kernel_rfl) (by simp) rfl (fun w103 hs104 => ?_)
  have hs105 : St B w [] w103 [blk b23 (.cells [(.int .u64 (vget img l ((ifind (img.length : Int) gw gi gb n_).1 + 0))), (.int .u64 (vget img l ((ifind (img.length : Int) gw gi gb n_).1 + 1))), (.int .u64 (vget img l ((ifind (img.length : Int) gw gi gb n_).1 + 2))), (.int .u64 (vget img l ((ifind (img.length : Int) gw gi gb n_).1 + 3))), (.int .u64 (vget img l ((ifind (img.length : Int) gw gi gb n_).1 + 4))), (.int .u64 (vget img l ((ifind (img.length : Int) gw gi gb n_).1 + 5))), (.int .u64 (vget img l ((ifind (img.length : Int) gw gi gb n_).1 + 6))), (.int .u64 (vget img l ((ifind (img.length : Int) gw gi gb n_).1 + 7))), (.int .u64 0), (.int .u64 0)].toArray 128 (0, 0)), blk b7 (.cells [(.int .u64 0), (.int .u64 0), (.int .u64 0), (.int .u64 0), (.int .u64 0), (.int .u64 0), (.int .u64 0), (.int .u64 0), (.int .u64 0), (.int .u64 0)].toArray 78 (0, 0)), blk b4 (.cells [(.int .i64 gw), (.int .i64 gi), (.int .i64 gb)].toArray 23 (0, 0))] := hs104
  refine zD ?_
  refine normal_block ?_
  refine hK98 _ _ ?_
  refine W.region ?_
  refine zE 2 ?_
  refine loopAt_next ?_
  refine loopAt_round ?_
  refine W.sr fun K106 hK106 => ?_
  refine zE 1 (hK106 _ _ ?_)
  refine W.seq fun K107 hK107 => ?_
  refine W.cond_true true (by kernel_rfl) rfl ?_
  refine W.skip ?_
  refine hK107 _ _ ?_
  refine W.seq fun K108 hK108 => ?_
  refine W.block ?_
  refine W.sr fun K109 hK109 => ?_
  refine zE 2 (hK109 _ _ ?_)
  refine W.region ?_
  refine zR 4 ?_
  refine zI ((ifind (img.length : Int) gw gi gb n_).1 + 8) (wrap_i64 (by omega) (by omega)) ?_
  refine zC00 hs105 (get_spec (at_ := ((ifind (img.length : Int) gw gi gb n_).1 + 8)) (hv := (viewAt_old hs105 hv)) B _) fun w110 hs112 => ?_
  refine zR 1 ?_
  refine ops_store (off := 8) (cs := [(.int .u64 (vget img l ((ifind (img.length : Int) gw gi gb n_).1 + 0))), (.int .u64 (vget img l ((ifind (img.length : Int) gw gi gb n_).1 + 1))), (.int .u64 (vget img l ((ifind (img.length : Int) gw gi gb n_).1 + 2))), (.int .u64 (vget img l ((ifind (img.length : Int) gw gi gb n_).1 + 3))), (.int .u64 (vget img l ((ifind (img.length : Int) gw gi gb n_).1 + 4))), (.int .u64 (vget img l ((ifind (img.length : Int) gw gi gb n_).1 + 5))), (.int .u64 (vget img l ((ifind (img.length : Int) gw gi gb n_).1 + 6))), (.int .u64 (vget img l ((ifind (img.length : Int) gw gi gb n_).1 + 7))), (.int .u64 0), (.int .u64 0)]) (vs := [(.int .u64 (vget img l ((ifind (img.length : Int) gw gi gb n_).1 + 8)))]) hs112 (by kernel_rfl) (by simp) rfl (fun w113 hs114 => ?_)
  have hs115 : St B w [] w113 [blk b23 (.cells [(.int .u64 (vget img l ((ifind (img.length : Int) gw gi gb n_).1 + 0))), (.int .u64 (vget img l ((ifind (img.length : Int) gw gi gb n_).1 + 1))), (.int .u64 (vget img l ((ifind (img.length : Int) gw gi gb n_).1 + 2))), (.int .u64 (vget img l ((ifind (img.length : Int) gw gi gb n_).1 + 3))), (.int .u64 (vget img l ((ifind (img.length : Int) gw gi gb n_).1 + 4))), (.int .u64 (vget img l ((ifind (img.length : Int) gw gi gb n_).1 + 5))), (.int .u64 (vget img l ((ifind (img.length : Int) gw gi gb n_).1 + 6))), (.int .u64 (vget img l ((ifind (img.length : Int) gw gi gb n_).1 + 7))), (.int .u64 (vget img l ((ifind (img.length : Int) gw gi gb n_).1 + 8))), (.int .u64 0)].toArray 128 (0, 0)), blk b7 (.cells [(.int .u64 0), (.int .u64 0), (.int .u64 0), (.int .u64 0), (.int .u64 0), (.int .u64 0), (.int .u64 0), (.int .u64 0), (.int .u64 0), (.int .u64 0)].toArray 78 (0, 0)), blk b4 (.cells [(.int .i64 gw), (.int .i64 gi), (.int .i64 gb)].toArray 23 (0, 0))] := hs114
  refine zD ?_
  refine normal_block ?_
  refine hK108 _ _ ?_
  refine W.region ?_
  refine zE 2 ?_
  refine loopAt_next ?_
  refine loopAt_round ?_
  refine W.sr fun K116 hK116 => ?_
  refine zE 1 (hK116 _ _ ?_)
  refine W.seq fun K117 hK117 => ?_
  refine W.cond_true true (by kernel_rfl) rfl ?_
  refine W.skip ?_
  refine hK117 _ _ ?_
  refine W.seq fun K118 hK118 => ?_
  refine W.block ?_
  refine W.sr fun K119 hK119 => ?_
  refine zE 2 (hK119 _ _ ?_)
  refine W.region ?_
  refine zR 4 ?_
  refine zI ((ifind (img.length : Int) gw gi gb n_).1 + 9) (wrap_i64 (by omega) (by omega)) ?_
  refine zC00 hs115 (get_spec (at_ := ((ifind (img.length : Int) gw gi gb n_).1 + 9)) (hv := (viewAt_old hs115 hv)) B _) fun w120 hs122 => ?_
  refine zR 1 ?_
  refine ops_store (off := 9) (cs := [(.int .u64 (vget img l ((ifind (img.length : Int) gw gi gb n_).1 + 0))), (.int .u64 (vget img l ((ifind (img.length : Int) gw gi gb n_).1 + 1))), (.int .u64 (vget img l ((ifind (img.length : Int) gw gi gb n_).1 + 2))), (.int .u64 (vget img l ((ifind (img.length : Int) gw gi gb n_).1 + 3))), (.int .u64 (vget img l ((ifind (img.length : Int) gw gi gb n_).1 + 4))), (.int .u64 (vget img l ((ifind (img.length : Int) gw gi gb n_).1 + 5))), (.int .u64 (vget img l ((ifind (img.length : Int) gw gi gb n_).1 + 6))), (.int .u64 (vget img l ((ifind (img.length : Int) gw gi gb n_).1 + 7))), (.int .u64 (vget img l ((ifind (img.length : Int) gw gi gb n_).1 + 8))), (.int .u64 0)]) (vs := [(.int .u64 (vget img l ((ifind (img.length : Int) gw gi gb n_).1 + 9)))]) hs122 (by kernel_rfl) (by simp) rfl (fun w123 hs124 => ?_)
  have hs125 : St B w [] w123 [blk b23 (.cells [(.int .u64 (vget img l ((ifind (img.length : Int) gw gi gb n_).1 + 0))), (.int .u64 (vget img l ((ifind (img.length : Int) gw gi gb n_).1 + 1))), (.int .u64 (vget img l ((ifind (img.length : Int) gw gi gb n_).1 + 2))), (.int .u64 (vget img l ((ifind (img.length : Int) gw gi gb n_).1 + 3))), (.int .u64 (vget img l ((ifind (img.length : Int) gw gi gb n_).1 + 4))), (.int .u64 (vget img l ((ifind (img.length : Int) gw gi gb n_).1 + 5))), (.int .u64 (vget img l ((ifind (img.length : Int) gw gi gb n_).1 + 6))), (.int .u64 (vget img l ((ifind (img.length : Int) gw gi gb n_).1 + 7))), (.int .u64 (vget img l ((ifind (img.length : Int) gw gi gb n_).1 + 8))), (.int .u64 (vget img l ((ifind (img.length : Int) gw gi gb n_).1 + 9)))].toArray 128 (0, 0)), blk b7 (.cells [(.int .u64 0), (.int .u64 0), (.int .u64 0), (.int .u64 0), (.int .u64 0), (.int .u64 0), (.int .u64 0), (.int .u64 0), (.int .u64 0), (.int .u64 0)].toArray 78 (0, 0)), blk b4 (.cells [(.int .i64 gw), (.int .i64 gi), (.int .i64 gb)].toArray 23 (0, 0))] := hs124
  refine zD ?_
  refine normal_block ?_
  refine hK118 _ _ ?_
  refine W.region ?_
  refine zE 2 ?_
  refine loopAt_next ?_
  refine loopAt_round ?_
  refine W.sr fun K126 hK126 => ?_
  refine zE 1 (hK126 _ _ ?_)
  refine W.seq fun K127 hK127 => ?_
  refine W.cond_false false (by kernel_rfl) rfl ?_
  refine W.exit (exit_seq (exit_seq (exit_here ?_)))
  refine hK24 _ _ ?_
  refine W.sr fun K128 hK128 => ?_
  refine ops_R (runs_loadAgg (ad := ⟨b23, 0, none⟩) (cs := [(.int .u64 (vget img l ((ifind (img.length : Int) gw gi gb n_).1 + 0))), (.int .u64 (vget img l ((ifind (img.length : Int) gw gi gb n_).1 + 1))), (.int .u64 (vget img l ((ifind (img.length : Int) gw gi gb n_).1 + 2))), (.int .u64 (vget img l ((ifind (img.length : Int) gw gi gb n_).1 + 3))), (.int .u64 (vget img l ((ifind (img.length : Int) gw gi gb n_).1 + 4))), (.int .u64 (vget img l ((ifind (img.length : Int) gw gi gb n_).1 + 5))), (.int .u64 (vget img l ((ifind (img.length : Int) gw gi gb n_).1 + 6))), (.int .u64 (vget img l ((ifind (img.length : Int) gw gi gb n_).1 + 7))), (.int .u64 (vget img l ((ifind (img.length : Int) gw gi gb n_).1 + 8))), (.int .u64 (vget img l ((ifind (img.length : Int) gw gi gb n_).1 + 9)))]) (by kernel_rfl) (cells_sub (hs125.heapAt 0 rfl) rfl)) ?_
  refine zC00 hs125 (inode_spec (x_ := ⟨(vget img l ((ifind (img.length : Int) gw gi gb n_).1 + 0)), (vget img l ((ifind (img.length : Int) gw gi gb n_).1 + 1)), (vget img l ((ifind (img.length : Int) gw gi gb n_).1 + 2)), (vget img l ((ifind (img.length : Int) gw gi gb n_).1 + 3)), (vget img l ((ifind (img.length : Int) gw gi gb n_).1 + 4)), (vget img l ((ifind (img.length : Int) gw gi gb n_).1 + 5)), (vget img l ((ifind (img.length : Int) gw gi gb n_).1 + 6)), (vget img l ((ifind (img.length : Int) gw gi gb n_).1 + 7)), (vget img l ((ifind (img.length : Int) gw gi gb n_).1 + 8)), (vget img l ((ifind (img.length : Int) gw gi gb n_).1 + 9))⟩) B _) fun w129 hs131 => ?_
  refine zN [(.int .u64 0), (.int .u64 0), (.int .u64 0), (.int .u64 0), (.int .u64 0), (.int .u64 0), (.int .u64 0), (.int .u64 0), (.int .u64 0), (.int .u64 0)] 78 hs131 fun b134 w132 hs133 => ?_
  refine ops_store (off := 0) (cs := [(.int .u64 0), (.int .u64 0), (.int .u64 0), (.int .u64 0), (.int .u64 0), (.int .u64 0), (.int .u64 0), (.int .u64 0), (.int .u64 0), (.int .u64 0)]) (vs := [(.int .u64 (vget img l ((ifind (img.length : Int) gw gi gb n_).1 + 0))), (.int .u64 (vget img l ((ifind (img.length : Int) gw gi gb n_).1 + 1))), (.int .u64 (vget img l ((ifind (img.length : Int) gw gi gb n_).1 + 2))), (.int .u64 (vget img l ((ifind (img.length : Int) gw gi gb n_).1 + 3))), (.int .u64 (vget img l ((ifind (img.length : Int) gw gi gb n_).1 + 4))), (.int .u64 (vget img l ((ifind (img.length : Int) gw gi gb n_).1 + 5))), (.int .u64 (vget img l ((ifind (img.length : Int) gw gi gb n_).1 + 6))), (.int .u64 (vget img l ((ifind (img.length : Int) gw gi gb n_).1 + 7))), (.int .u64 (vget img l ((ifind (img.length : Int) gw gi gb n_).1 + 8))), (.int .u64 (vget img l ((ifind (img.length : Int) gw gi gb n_).1 + 9)))]) hs133 (by kernel_rfl) (by simp) rfl (fun w135 hs136 => ?_)
  have hs137 : St B w [] w135 [blk b134 (.cells [(.int .u64 (vget img l ((ifind (img.length : Int) gw gi gb n_).1 + 0))), (.int .u64 (vget img l ((ifind (img.length : Int) gw gi gb n_).1 + 1))), (.int .u64 (vget img l ((ifind (img.length : Int) gw gi gb n_).1 + 2))), (.int .u64 (vget img l ((ifind (img.length : Int) gw gi gb n_).1 + 3))), (.int .u64 (vget img l ((ifind (img.length : Int) gw gi gb n_).1 + 4))), (.int .u64 (vget img l ((ifind (img.length : Int) gw gi gb n_).1 + 5))), (.int .u64 (vget img l ((ifind (img.length : Int) gw gi gb n_).1 + 6))), (.int .u64 (vget img l ((ifind (img.length : Int) gw gi gb n_).1 + 7))), (.int .u64 (vget img l ((ifind (img.length : Int) gw gi gb n_).1 + 8))), (.int .u64 (vget img l ((ifind (img.length : Int) gw gi gb n_).1 + 9)))].toArray 78 (0, 0)), blk b23 (.cells [(.int .u64 (vget img l ((ifind (img.length : Int) gw gi gb n_).1 + 0))), (.int .u64 (vget img l ((ifind (img.length : Int) gw gi gb n_).1 + 1))), (.int .u64 (vget img l ((ifind (img.length : Int) gw gi gb n_).1 + 2))), (.int .u64 (vget img l ((ifind (img.length : Int) gw gi gb n_).1 + 3))), (.int .u64 (vget img l ((ifind (img.length : Int) gw gi gb n_).1 + 4))), (.int .u64 (vget img l ((ifind (img.length : Int) gw gi gb n_).1 + 5))), (.int .u64 (vget img l ((ifind (img.length : Int) gw gi gb n_).1 + 6))), (.int .u64 (vget img l ((ifind (img.length : Int) gw gi gb n_).1 + 7))), (.int .u64 (vget img l ((ifind (img.length : Int) gw gi gb n_).1 + 8))), (.int .u64 (vget img l ((ifind (img.length : Int) gw gi gb n_).1 + 9)))].toArray 128 (0, 0)), blk b7 (.cells [(.int .u64 0), (.int .u64 0), (.int .u64 0), (.int .u64 0), (.int .u64 0), (.int .u64 0), (.int .u64 0), (.int .u64 0), (.int .u64 0), (.int .u64 0)].toArray 78 (0, 0)), blk b4 (.cells [(.int .i64 gw), (.int .i64 gi), (.int .i64 gb)].toArray 23 (0, 0))] := hs136
  refine zD (hK128 _ _ ?_)
  refine W.seq fun K138 hK138 => ?_
  refine W.sr fun K139 hK139 => ?_
  refine ops_R (runs_loadAgg (ad := ⟨b4, 0, none⟩) (cs := [(.int .i64 gw), (.int .i64 gi), (.int .i64 gb)]) (by kernel_rfl) (cells_sub (hs137.heapAt 3 rfl) rfl)) ?_
  refine ops_R (runs_loadAgg (ad := ⟨b134, 0, none⟩) (cs := [(.int .u64 (vget img l ((ifind (img.length : Int) gw gi gb n_).1 + 0))), (.int .u64 (vget img l ((ifind (img.length : Int) gw gi gb n_).1 + 1))), (.int .u64 (vget img l ((ifind (img.length : Int) gw gi gb n_).1 + 2))), (.int .u64 (vget img l ((ifind (img.length : Int) gw gi gb n_).1 + 3))), (.int .u64 (vget img l ((ifind (img.length : Int) gw gi gb n_).1 + 4))), (.int .u64 (vget img l ((ifind (img.length : Int) gw gi gb n_).1 + 5))), (.int .u64 (vget img l ((ifind (img.length : Int) gw gi gb n_).1 + 6))), (.int .u64 (vget img l ((ifind (img.length : Int) gw gi gb n_).1 + 7))), (.int .u64 (vget img l ((ifind (img.length : Int) gw gi gb n_).1 + 8))), (.int .u64 (vget img l ((ifind (img.length : Int) gw gi gb n_).1 + 9)))]) (by kernel_rfl) (cells_sub (hs137.heapAt 0 rfl) rfl)) ?_
  refine zC00 hs137 (right_spec (gw := gw) (gi := gi) (gb := gb) (x_ := ⟨(vget img l ((ifind (img.length : Int) gw gi gb n_).1 + 0)), (vget img l ((ifind (img.length : Int) gw gi gb n_).1 + 1)), (vget img l ((ifind (img.length : Int) gw gi gb n_).1 + 2)), (vget img l ((ifind (img.length : Int) gw gi gb n_).1 + 3)), (vget img l ((ifind (img.length : Int) gw gi gb n_).1 + 4)), (vget img l ((ifind (img.length : Int) gw gi gb n_).1 + 5)), (vget img l ((ifind (img.length : Int) gw gi gb n_).1 + 6)), (vget img l ((ifind (img.length : Int) gw gi gb n_).1 + 7)), (vget img l ((ifind (img.length : Int) gw gi gb n_).1 + 8)), (vget img l ((ifind (img.length : Int) gw gi gb n_).1 + 9))⟩) B _) fun w140 hs142 => ?_
  refine zE 1 (hK139 _ _ ?_)
  refine W.cond (!(decide (RightP gw gi gb ⟨(vget img l ((ifind (img.length : Int) gw gi gb n_).1 + 0)), (vget img l ((ifind (img.length : Int) gw gi gb n_).1 + 1)), (vget img l ((ifind (img.length : Int) gw gi gb n_).1 + 2)), (vget img l ((ifind (img.length : Int) gw gi gb n_).1 + 3)), (vget img l ((ifind (img.length : Int) gw gi gb n_).1 + 4)), (vget img l ((ifind (img.length : Int) gw gi gb n_).1 + 5)), (vget img l ((ifind (img.length : Int) gw gi gb n_).1 + 6)), (vget img l ((ifind (img.length : Int) gw gi gb n_).1 + 7)), (vget img l ((ifind (img.length : Int) gw gi gb n_).1 + 8)), (vget img l ((ifind (img.length : Int) gw gi gb n_).1 + 9))⟩))) (by kernel_rfl) (fun h143 => ?_) (fun h143 => ?_)
  ·
   have h143p : ¬ (RightP gw gi gb ⟨(vget img l ((ifind (img.length : Int) gw gi gb n_).1 + 0)), (vget img l ((ifind (img.length : Int) gw gi gb n_).1 + 1)), (vget img l ((ifind (img.length : Int) gw gi gb n_).1 + 2)), (vget img l ((ifind (img.length : Int) gw gi gb n_).1 + 3)), (vget img l ((ifind (img.length : Int) gw gi gb n_).1 + 4)), (vget img l ((ifind (img.length : Int) gw gi gb n_).1 + 5)), (vget img l ((ifind (img.length : Int) gw gi gb n_).1 + 6)), (vget img l ((ifind (img.length : Int) gw gi gb n_).1 + 7)), (vget img l ((ifind (img.length : Int) gw gi gb n_).1 + 8)), (vget img l ((ifind (img.length : Int) gw gi gb n_).1 + 9))⟩) := of_decide_eq_false (bnot_true h143)
   refine W.sr fun K144 hK144 => ?_
   refine zR 1 ?_
   have hs147 := St.f2 hs142
   refine ops_store (off := 0) (cs := [(.int .u64 0), (.int .u64 0), (.int .u64 0), (.int .u64 0), (.int .u64 0), (.int .u64 0), (.int .u64 0), (.int .u64 0), (.int .u64 0), (.int .u64 0)]) (vs := [(.int .u64 0), (.int .u64 0), (.int .u64 0), (.int .u64 0), (.int .u64 0), (.int .u64 0), (.int .u64 0), (.int .u64 0), (.int .u64 0), (.int .u64 0)]) hs147 (by kernel_rfl) (by simp) rfl (fun w145 hs146 => ?_)
   have hs148 : St B w [] w145 [blk b7 (.cells [(.int .u64 0), (.int .u64 0), (.int .u64 0), (.int .u64 0), (.int .u64 0), (.int .u64 0), (.int .u64 0), (.int .u64 0), (.int .u64 0), (.int .u64 0)].toArray 78 (0, 0)), blk b134 (.cells [(.int .u64 (vget img l ((ifind (img.length : Int) gw gi gb n_).1 + 0))), (.int .u64 (vget img l ((ifind (img.length : Int) gw gi gb n_).1 + 1))), (.int .u64 (vget img l ((ifind (img.length : Int) gw gi gb n_).1 + 2))), (.int .u64 (vget img l ((ifind (img.length : Int) gw gi gb n_).1 + 3))), (.int .u64 (vget img l ((ifind (img.length : Int) gw gi gb n_).1 + 4))), (.int .u64 (vget img l ((ifind (img.length : Int) gw gi gb n_).1 + 5))), (.int .u64 (vget img l ((ifind (img.length : Int) gw gi gb n_).1 + 6))), (.int .u64 (vget img l ((ifind (img.length : Int) gw gi gb n_).1 + 7))), (.int .u64 (vget img l ((ifind (img.length : Int) gw gi gb n_).1 + 8))), (.int .u64 (vget img l ((ifind (img.length : Int) gw gi gb n_).1 + 9)))].toArray 78 (0, 0)), blk b23 (.cells [(.int .u64 (vget img l ((ifind (img.length : Int) gw gi gb n_).1 + 0))), (.int .u64 (vget img l ((ifind (img.length : Int) gw gi gb n_).1 + 1))), (.int .u64 (vget img l ((ifind (img.length : Int) gw gi gb n_).1 + 2))), (.int .u64 (vget img l ((ifind (img.length : Int) gw gi gb n_).1 + 3))), (.int .u64 (vget img l ((ifind (img.length : Int) gw gi gb n_).1 + 4))), (.int .u64 (vget img l ((ifind (img.length : Int) gw gi gb n_).1 + 5))), (.int .u64 (vget img l ((ifind (img.length : Int) gw gi gb n_).1 + 6))), (.int .u64 (vget img l ((ifind (img.length : Int) gw gi gb n_).1 + 7))), (.int .u64 (vget img l ((ifind (img.length : Int) gw gi gb n_).1 + 8))), (.int .u64 (vget img l ((ifind (img.length : Int) gw gi gb n_).1 + 9)))].toArray 128 (0, 0)), blk b4 (.cells [(.int .i64 gw), (.int .i64 gi), (.int .i64 gb)].toArray 23 (0, 0))] := hs146
   refine zE 1 (hK144 _ _ ?_)
   refine W.ret (ret_seq ?_)
   have e_ : igetM img l gw gi gb n_ = (Nd.zero, 4) := by first | (exfalso; omega) | (simp only [igetM]; rw [if_pos (by assumption)]; exact if_neg (by assumption))
   have hs149 := St.tk0 hs148
   refine ret_of (.tuple #[(.agg #[(.int .u64 0), (.int .u64 0), (.int .u64 0), (.int .u64 0), (.int .u64 0), (.int .u64 0), (.int .u64 0), (.int .u64 0), (.int .u64 0), (.int .u64 0)]), (.int .i64 4)]) (results_cell2 (ad := ⟨b7, 0, none⟩) (cs := [(.int .u64 0), (.int .u64 0), (.int .u64 0), (.int .u64 0), (.int .u64 0), (.int .u64 0), (.int .u64 0), (.int .u64 0), (.int .u64 0), (.int .u64 0)]) rfl (by kernel_rfl) (by kernel_rfl) (by kernel_rfl) (cells_sub (hs148.heapAt 0 rfl) rfl)) ⟨_, ⟨by rw [e_]; try rfl, rfl⟩, hs149⟩
  ·
   have h143p : RightP gw gi gb ⟨(vget img l ((ifind (img.length : Int) gw gi gb n_).1 + 0)), (vget img l ((ifind (img.length : Int) gw gi gb n_).1 + 1)), (vget img l ((ifind (img.length : Int) gw gi gb n_).1 + 2)), (vget img l ((ifind (img.length : Int) gw gi gb n_).1 + 3)), (vget img l ((ifind (img.length : Int) gw gi gb n_).1 + 4)), (vget img l ((ifind (img.length : Int) gw gi gb n_).1 + 5)), (vget img l ((ifind (img.length : Int) gw gi gb n_).1 + 6)), (vget img l ((ifind (img.length : Int) gw gi gb n_).1 + 7)), (vget img l ((ifind (img.length : Int) gw gi gb n_).1 + 8)), (vget img l ((ifind (img.length : Int) gw gi gb n_).1 + 9))⟩ := of_decide_eq_true (bnot_false h143)
   refine W.skip ?_
   refine hK138 _ _ ?_
   refine W.sr fun K150 hK150 => ?_
   refine ops_R (runs_loadAgg (ad := ⟨b134, 0, none⟩) (cs := [(.int .u64 (vget img l ((ifind (img.length : Int) gw gi gb n_).1 + 0))), (.int .u64 (vget img l ((ifind (img.length : Int) gw gi gb n_).1 + 1))), (.int .u64 (vget img l ((ifind (img.length : Int) gw gi gb n_).1 + 2))), (.int .u64 (vget img l ((ifind (img.length : Int) gw gi gb n_).1 + 3))), (.int .u64 (vget img l ((ifind (img.length : Int) gw gi gb n_).1 + 4))), (.int .u64 (vget img l ((ifind (img.length : Int) gw gi gb n_).1 + 5))), (.int .u64 (vget img l ((ifind (img.length : Int) gw gi gb n_).1 + 6))), (.int .u64 (vget img l ((ifind (img.length : Int) gw gi gb n_).1 + 7))), (.int .u64 (vget img l ((ifind (img.length : Int) gw gi gb n_).1 + 8))), (.int .u64 (vget img l ((ifind (img.length : Int) gw gi gb n_).1 + 9)))]) (by kernel_rfl) (cells_sub (hs142.heapAt 0 rfl) rfl)) ?_
   have hs153 := St.f2 hs142
   refine ops_store (off := 0) (cs := [(.int .u64 0), (.int .u64 0), (.int .u64 0), (.int .u64 0), (.int .u64 0), (.int .u64 0), (.int .u64 0), (.int .u64 0), (.int .u64 0), (.int .u64 0)]) (vs := [(.int .u64 (vget img l ((ifind (img.length : Int) gw gi gb n_).1 + 0))), (.int .u64 (vget img l ((ifind (img.length : Int) gw gi gb n_).1 + 1))), (.int .u64 (vget img l ((ifind (img.length : Int) gw gi gb n_).1 + 2))), (.int .u64 (vget img l ((ifind (img.length : Int) gw gi gb n_).1 + 3))), (.int .u64 (vget img l ((ifind (img.length : Int) gw gi gb n_).1 + 4))), (.int .u64 (vget img l ((ifind (img.length : Int) gw gi gb n_).1 + 5))), (.int .u64 (vget img l ((ifind (img.length : Int) gw gi gb n_).1 + 6))), (.int .u64 (vget img l ((ifind (img.length : Int) gw gi gb n_).1 + 7))), (.int .u64 (vget img l ((ifind (img.length : Int) gw gi gb n_).1 + 8))), (.int .u64 (vget img l ((ifind (img.length : Int) gw gi gb n_).1 + 9)))]) hs153 (by kernel_rfl) (by simp) rfl (fun w151 hs152 => ?_)
   have hs154 : St B w [] w151 [blk b7 (.cells [(.int .u64 (vget img l ((ifind (img.length : Int) gw gi gb n_).1 + 0))), (.int .u64 (vget img l ((ifind (img.length : Int) gw gi gb n_).1 + 1))), (.int .u64 (vget img l ((ifind (img.length : Int) gw gi gb n_).1 + 2))), (.int .u64 (vget img l ((ifind (img.length : Int) gw gi gb n_).1 + 3))), (.int .u64 (vget img l ((ifind (img.length : Int) gw gi gb n_).1 + 4))), (.int .u64 (vget img l ((ifind (img.length : Int) gw gi gb n_).1 + 5))), (.int .u64 (vget img l ((ifind (img.length : Int) gw gi gb n_).1 + 6))), (.int .u64 (vget img l ((ifind (img.length : Int) gw gi gb n_).1 + 7))), (.int .u64 (vget img l ((ifind (img.length : Int) gw gi gb n_).1 + 8))), (.int .u64 (vget img l ((ifind (img.length : Int) gw gi gb n_).1 + 9)))].toArray 78 (0, 0)), blk b134 (.cells [(.int .u64 (vget img l ((ifind (img.length : Int) gw gi gb n_).1 + 0))), (.int .u64 (vget img l ((ifind (img.length : Int) gw gi gb n_).1 + 1))), (.int .u64 (vget img l ((ifind (img.length : Int) gw gi gb n_).1 + 2))), (.int .u64 (vget img l ((ifind (img.length : Int) gw gi gb n_).1 + 3))), (.int .u64 (vget img l ((ifind (img.length : Int) gw gi gb n_).1 + 4))), (.int .u64 (vget img l ((ifind (img.length : Int) gw gi gb n_).1 + 5))), (.int .u64 (vget img l ((ifind (img.length : Int) gw gi gb n_).1 + 6))), (.int .u64 (vget img l ((ifind (img.length : Int) gw gi gb n_).1 + 7))), (.int .u64 (vget img l ((ifind (img.length : Int) gw gi gb n_).1 + 8))), (.int .u64 (vget img l ((ifind (img.length : Int) gw gi gb n_).1 + 9)))].toArray 78 (0, 0)), blk b23 (.cells [(.int .u64 (vget img l ((ifind (img.length : Int) gw gi gb n_).1 + 0))), (.int .u64 (vget img l ((ifind (img.length : Int) gw gi gb n_).1 + 1))), (.int .u64 (vget img l ((ifind (img.length : Int) gw gi gb n_).1 + 2))), (.int .u64 (vget img l ((ifind (img.length : Int) gw gi gb n_).1 + 3))), (.int .u64 (vget img l ((ifind (img.length : Int) gw gi gb n_).1 + 4))), (.int .u64 (vget img l ((ifind (img.length : Int) gw gi gb n_).1 + 5))), (.int .u64 (vget img l ((ifind (img.length : Int) gw gi gb n_).1 + 6))), (.int .u64 (vget img l ((ifind (img.length : Int) gw gi gb n_).1 + 7))), (.int .u64 (vget img l ((ifind (img.length : Int) gw gi gb n_).1 + 8))), (.int .u64 (vget img l ((ifind (img.length : Int) gw gi gb n_).1 + 9)))].toArray 128 (0, 0)), blk b4 (.cells [(.int .i64 gw), (.int .i64 gi), (.int .i64 gb)].toArray 23 (0, 0))] := hs152
   refine zE 1 (hK150 _ _ ?_)
   refine W.ret ?_
   have e_ : igetM img l gw gi gb n_ = (ndAt img l (ifind (img.length : Int) gw gi gb n_).1, 0) := by first | (exfalso; omega) | (simp only [igetM]; rw [if_pos (by assumption)]; exact if_pos (by assumption))
   have hs155 := St.tk0 hs154
   refine ret_of (.tuple #[(.agg #[(.int .u64 (vget img l ((ifind (img.length : Int) gw gi gb n_).1 + 0))), (.int .u64 (vget img l ((ifind (img.length : Int) gw gi gb n_).1 + 1))), (.int .u64 (vget img l ((ifind (img.length : Int) gw gi gb n_).1 + 2))), (.int .u64 (vget img l ((ifind (img.length : Int) gw gi gb n_).1 + 3))), (.int .u64 (vget img l ((ifind (img.length : Int) gw gi gb n_).1 + 4))), (.int .u64 (vget img l ((ifind (img.length : Int) gw gi gb n_).1 + 5))), (.int .u64 (vget img l ((ifind (img.length : Int) gw gi gb n_).1 + 6))), (.int .u64 (vget img l ((ifind (img.length : Int) gw gi gb n_).1 + 7))), (.int .u64 (vget img l ((ifind (img.length : Int) gw gi gb n_).1 + 8))), (.int .u64 (vget img l ((ifind (img.length : Int) gw gi gb n_).1 + 9)))]), (.int .i64 0)]) (results_cell2 (ad := ⟨b7, 0, none⟩) (cs := [(.int .u64 (vget img l ((ifind (img.length : Int) gw gi gb n_).1 + 0))), (.int .u64 (vget img l ((ifind (img.length : Int) gw gi gb n_).1 + 1))), (.int .u64 (vget img l ((ifind (img.length : Int) gw gi gb n_).1 + 2))), (.int .u64 (vget img l ((ifind (img.length : Int) gw gi gb n_).1 + 3))), (.int .u64 (vget img l ((ifind (img.length : Int) gw gi gb n_).1 + 4))), (.int .u64 (vget img l ((ifind (img.length : Int) gw gi gb n_).1 + 5))), (.int .u64 (vget img l ((ifind (img.length : Int) gw gi gb n_).1 + 6))), (.int .u64 (vget img l ((ifind (img.length : Int) gw gi gb n_).1 + 7))), (.int .u64 (vget img l ((ifind (img.length : Int) gw gi gb n_).1 + 8))), (.int .u64 (vget img l ((ifind (img.length : Int) gw gi gb n_).1 + 9)))]) rfl (by kernel_rfl) (by kernel_rfl) (by kernel_rfl) (cells_sub (hs154.heapAt 0 rfl) rfl)) ⟨_, ⟨by rw [e_]; try rfl, rfl⟩, hs155⟩

end Go.Proofs.YtmmclabkkigiaaaDoor

set_option linter.unusedVariables false
set_option maxRecDepth 20000
set_option maxHeartbeats 2000000
namespace Go.Proofs.YtmmclabkkigiaaaDoor
open Go Go.RowKit
set_option linter.unusedSimpArgs false
set_option linter.unusedVariables false

def bown_M (gw : Int) (gi : Int) (gb : Int) (n_ : Int) (w_ : Int) : Option (Int) :=
 (some (placeOf 8 gw gi gb n_)).bind fun r4 =>
need (-9223372036854775808 ≤ (r4 + w_) ∧ (r4 + w_) ≤ 9223372036854775807) <|
some (r4 + w_)

theorem bown_walk {img : List Int} {l : List (Int × Int)} {gw : Int} {gi : Int} {gb : Int} {n_ : Int} {w_ : Int} {mb vb : Nat} {r : Int} (B : Nat) (w : World) (hmb : w.heap[mb]? = some (.cells [(.pointer (some ⟨vb, 0, none⟩)), (.int .i64 gw), (.int .i64 gi), (.int .i64 gb), (.int .i64 n_)].toArray 85 (0, 0))) (hv : ViewAt (ptr vb) img l w) (hm : bown_M gw gi gb n_ w_ = some r) : Spec Tryd.prog 42 #[(.pointer (some ⟨mb, 0, none⟩)), (.int .i64 w_)] B w [] (fun v H' => v = (.int .i64 r) ∧ H' = []) := by
 refine spec_Q Tryd.func42 rfl fun hs => ?_
 unfold bown_M at hm
 refine W.sr fun K1 hK1 => ?_
 refine zE 1 (hK1 _ _ ?_)
 refine W.seq fun K2 hK2 => ?_
 have hs3 := hs.drew
 refine W.regionD [(0, 0), (1, 1), (2, 2), (4, 4), (0, 0), (16, 16), (32, 32), (64, 64), (136, 136), (0, 0), (768, 768), (2047, 1024)] (fun w_ => St B w [] w_ []) (by kernel_rfl) hs3 ?_
 refine any_val (v := (.pointer (some ⟨mb, 0, none⟩))) (v' := (.pointer (some ⟨mb, 0, none⟩))) 0 (by kernel_rfl) (fun _ => by kernel_rfl) rfl hs3 ?_
 refine any_val (v := (.pointer (some ⟨mb, 0, none⟩))) (v' := (.pointer (some ⟨mb, 0, none⟩))) 1 (by kernel_rfl) (fun _ => by kernel_rfl) rfl hs3 ?_
 refine any_val (v := (.pointer (some ⟨mb, 1, none⟩))) (v' := (.pointer (some ⟨mb, 1, none⟩))) 2 (by kernel_rfl) (fun _ => by kernel_rfl) rfl hs3 ?_
 refine any_R 3 (by kernel_rfl) (fun _ hS_ => runs_loadAgg (ad := ⟨mb, 1, none⟩) (cs := [(.int .i64 gw), (.int .i64 gi), (.int .i64 gb)]) (by kernel_rfl) (cells_sub (hS_.old hmb) rfl)) hs3 ?_
 refine any_val (v := (.pointer (some ⟨mb, 0, none⟩))) (v' := (.pointer (some ⟨mb, 0, none⟩))) 4 (by kernel_rfl) (fun _ => by kernel_rfl) rfl hs3 ?_
 refine any_val (v := (.pointer (some ⟨mb, 0, none⟩))) (v' := (.pointer (some ⟨mb, 0, none⟩))) 5 (by kernel_rfl) (fun _ => by kernel_rfl) rfl hs3 ?_
 refine any_val (v := (.pointer (some ⟨mb, 4, none⟩))) (v' := (.pointer (some ⟨mb, 4, none⟩))) 6 (by kernel_rfl) (fun _ => by kernel_rfl) rfl hs3 ?_
 refine any_R 7 (by kernel_rfl) (fun _ hS_ => runs_load (ad := ⟨mb, 4, none⟩) (v := (.int .i64 n_)) (by kernel_rfl) (cell_of_blk (hS_.old hmb) rfl)) hs3 ?_
 refine any_val (v := (.int .i64 w_)) (v' := (.int .i64 w_)) 9 (by kernel_rfl) (fun _ => by kernel_rfl) rfl hs3 ?_
 refine any_step 8 (by kernel_rfl) (by kernel_rfl) ?_
 obtain ⟨r4, h5, hm⟩ := bind_some hm
 replace h5 := some_inj h5
 refine ops_call0 hs3 (by kernel_rfl) (inodeat_spec (gw := gw) (gi := gi) (gb := gb) (n_ := n_) B _) ?_
 rintro _ _ w6 ⟨hv8, hH9⟩ hs7
 rw [h5] at hv8
 try rw [h5] at hH9
 subst hv8 hH9
 have hs10 := St.ap0 hs7
 refine ops_done (by kernel_rfl) ⟨hs10, ?_⟩
 obtain ⟨h11, hm⟩ := need_some hm
 refine any_val (v := .int .i64 (IntKind.i64.wrap (r4 + w_))) (v' := .int .i64 (r4 + w_)) 10 (by kernel_rfl) (fun _ => by kernel_rfl) (congrArg (Value.int .i64) (wrap_i64 h11.1 h11.2)) hs10 ?_
 refine any_val (v := (.int .i64 (r4 + w_))) (v' := (.int .i64 (r4 + w_))) 11 (by kernel_rfl) (fun _ => by kernel_rfl) rfl hs10 ?_
 refine any_done (by kernel_rfl) ?_
 refine hK2 _ _ ?_
 refine W.ret ?_
 obtain rfl := some_inj hm
 refine ret_of (.int .i64 (r4 + w_)) (by kernel_rfl) ⟨_, ⟨rfl, rfl⟩, hs10⟩

end Go.Proofs.YtmmclabkkigiaaaDoor

set_option linter.unusedVariables false
set_option maxRecDepth 20000
set_option maxHeartbeats 2000000
namespace Go.Proofs.YtmmclabkkigiaaaDoor
open Go Go.RowKit
set_option linter.unusedSimpArgs false
set_option linter.unusedVariables false

def bchain_M (img : List Int) (l : List (Int × Int)) (gw : Int) (gi : Int) (gb : Int) (n_ : Int) : Option (Int) :=
 (bown_M gw gi gb n_ 8).bind fun r4 =>
need (-9223372036854775808 ≤ (vget img l r4) ∧ (vget img l r4) ≤ 9223372036854775807) <|
some (vget img l r4)

theorem bchain_walk {img : List Int} {l : List (Int × Int)} {gw : Int} {gi : Int} {gb : Int} {n_ : Int} {mb vb : Nat} {r : Int} (B : Nat) (w : World) (hmb : w.heap[mb]? = some (.cells [(.pointer (some ⟨vb, 0, none⟩)), (.int .i64 gw), (.int .i64 gi), (.int .i64 gb), (.int .i64 n_)].toArray 85 (0, 0))) (hv : ViewAt (ptr vb) img l w) (hm : bchain_M img l gw gi gb n_ = some r) : Spec Tryd.prog 50 #[(.pointer (some ⟨mb, 0, none⟩))] B w [] (fun v H' => v = (.int .i64 r) ∧ H' = []) := by
 refine spec_Q Tryd.func50 rfl fun hs => ?_
 unfold bchain_M at hm
 refine W.sr fun K1 hK1 => ?_
 refine zE 1 (hK1 _ _ ?_)
 refine W.seq fun K2 hK2 => ?_
 have hs3 := hs.drew
 refine W.regionD [(0, 0), (1, 1), (2, 2), (4, 4), (0, 0), (16, 16), (40, 40), (64, 64), (255, 128)] (fun w_ => St B w [] w_ []) (by kernel_rfl) hs3 ?_
 refine any_val (v := (.pointer (some ⟨mb, 0, none⟩))) (v' := (.pointer (some ⟨mb, 0, none⟩))) 0 (by kernel_rfl) (fun _ => by kernel_rfl) rfl hs3 ?_
 refine any_val (v := (.pointer (some ⟨mb, 0, none⟩))) (v' := (.pointer (some ⟨mb, 0, none⟩))) 1 (by kernel_rfl) (fun _ => by kernel_rfl) rfl hs3 ?_
 refine any_val (v := (.pointer (some ⟨mb, 0, none⟩))) (v' := (.pointer (some ⟨mb, 0, none⟩))) 2 (by kernel_rfl) (fun _ => by kernel_rfl) rfl hs3 ?_
 refine any_R 3 (by kernel_rfl) (fun _ hS_ => runs_load (ad := ⟨mb, 0, none⟩) (v := (.pointer (some ⟨vb, 0, none⟩))) (by kernel_rfl) (cell_of_blk (hS_.old hmb) rfl)) hs3 ?_
 refine any_val (v := (.pointer (some ⟨mb, 0, none⟩))) (v' := (.pointer (some ⟨mb, 0, none⟩))) 4 (by kernel_rfl) (fun _ => by kernel_rfl) rfl hs3 ?_
 refine any_step 5 (by kernel_rfl) (by kernel_rfl) ?_
 obtain ⟨r4, h5, hm⟩ := bind_some hm
 refine zC00 hs3 (bown_walk (w_ := 8) (img := img) (l := l) (gw := gw) (gi := gi) (gb := gb) (n_ := n_) (hmb := (hs3.old hmb)) (hv := (viewAt_old hs3 hv)) (hm := h5) B _) fun w6 hs8 => ?_
 refine ops_done (by kernel_rfl) ⟨hs8, ?_⟩
 refine any_step 6 (by kernel_rfl) (by kernel_rfl) ?_
 refine zC00 hs8 (get_spec (at_ := r4) (hv := (viewAt_old hs8 hv)) B _) fun w9 hs11 => ?_
 refine ops_done (by kernel_rfl) ⟨hs11, ?_⟩
 obtain ⟨h12, hm⟩ := need_some hm
 refine any_val (v := .int .i64 (IntKind.i64.wrap (vget img l r4))) (v' := .int .i64 (vget img l r4)) 7 (by kernel_rfl) (fun _ => by kernel_rfl) (congrArg (Value.int .i64) (wrap_i64 h12.1 h12.2)) hs11 ?_
 refine any_val (v := (.int .i64 (vget img l r4))) (v' := (.int .i64 (vget img l r4))) 8 (by kernel_rfl) (fun _ => by kernel_rfl) rfl hs11 ?_
 refine any_done (by kernel_rfl) ?_
 refine hK2 _ _ ?_
 refine W.ret ?_
 obtain rfl := some_inj hm
 refine ret_of (.int .i64 (vget img l r4)) (by kernel_rfl) ⟨_, ⟨rfl, rfl⟩, hs11⟩

def bdirect_M (gw : Int) (gi : Int) (gb : Int) (n_ : Int) (k_ : Int) : Option (Int × Bool) :=
 need (-9223372036854775808 ≤ (4 + k_) ∧ (4 + k_) ≤ 9223372036854775807) <|
(bown_M gw gi gb n_ (4 + k_)).bind fun r4 =>
some (r4, true)

theorem bdirect_walk {img : List Int} {l : List (Int × Int)} {gw : Int} {gi : Int} {gb : Int} {n_ : Int} {k_ : Int} {mb vb : Nat} {r : Int × Bool} (B : Nat) (w : World) (hmb : w.heap[mb]? = some (.cells [(.pointer (some ⟨vb, 0, none⟩)), (.int .i64 gw), (.int .i64 gi), (.int .i64 gb), (.int .i64 n_)].toArray 85 (0, 0))) (hv : ViewAt (ptr vb) img l w) (hm : bdirect_M gw gi gb n_ k_ = some r) : Spec Tryd.prog 77 #[(.pointer (some ⟨mb, 0, none⟩)), (.int .i64 k_)] B w [] (fun v H' => v = (.tuple #[(.int .i64 r.1), (.bool r.2)]) ∧ H' = []) := by
 refine spec_Q Tryd.func77 rfl fun hs => ?_
 unfold bdirect_M at hm
 refine W.sr fun K1 hK1 => ?_
 refine zE 2 (hK1 _ _ ?_)
 refine W.sr fun K2 hK2 => ?_
 refine zR 2 ?_
 obtain ⟨h3, hm⟩ := need_some hm
 refine zI _ (wrap_i64 h3.1 h3.2) ?_
 obtain ⟨r4, h5, hm⟩ := bind_some hm
 refine zC00 hs (bown_walk (w_ := (4 + k_)) (img := img) (l := l) (gw := gw) (gi := gi) (gb := gb) (n_ := n_) (hmb := (hs.old hmb)) (hv := (viewAt_old hs hv)) (hm := h5) B _) fun w6 hs8 => ?_
 refine zE 2 (hK2 _ _ ?_)
 refine W.ret ?_
 obtain rfl := some_inj hm
 refine ret_of (.tuple #[(.int .i64 r4), (.bool true)]) (by kernel_rfl) ⟨_, ⟨rfl, rfl⟩, hs8⟩

end Go.Proofs.YtmmclabkkigiaaaDoor

set_option linter.unusedVariables false
set_option maxRecDepth 20000
set_option maxHeartbeats 2000000
namespace Go.Proofs.YtmmclabkkigiaaaDoor
open Go Go.RowKit
set_option linter.unusedSimpArgs false
set_option linter.unusedVariables false

def bchained_M (img : List Int) (l : List (Int × Int)) (gw : Int) (gi : Int) (gb : Int) (n_ : Int) (k_ : Int) : Option (Int × Bool) :=
 (bchain_M img l gw gi gb n_).bind fun r3 =>
need (-9223372036854775808 ≤ ((placeOf 9 gw gi gb r3) + k_) ∧ ((placeOf 9 gw gi gb r3) + k_) ≤ 9223372036854775807) <|
need (-9223372036854775808 ≤ (((placeOf 9 gw gi gb r3) + k_) - 4) ∧ (((placeOf 9 gw gi gb r3) + k_) - 4) ≤ 9223372036854775807) <|
(some (((placeOf 9 gw gi gb r3) + k_) - 4)).bind fun r14 =>
some (r14, !decide (r3 = 0))

theorem bchained_walk {img : List Int} {l : List (Int × Int)} {gw : Int} {gi : Int} {gb : Int} {n_ : Int} {k_ : Int} {mb vb : Nat} {r : Int × Bool} (B : Nat) (w : World) (hmb : w.heap[mb]? = some (.cells [(.pointer (some ⟨vb, 0, none⟩)), (.int .i64 gw), (.int .i64 gi), (.int .i64 gb), (.int .i64 n_)].toArray 85 (0, 0))) (hv : ViewAt (ptr vb) img l w) (hm : bchained_M img l gw gi gb n_ k_ = some r) : Spec Tryd.prog 78 #[(.pointer (some ⟨mb, 0, none⟩)), (.int .i64 k_)] B w [] (fun v H' => v = (.tuple #[(.int .i64 r.1), (.bool r.2)]) ∧ H' = []) := by
 refine spec_Q Tryd.func78 rfl fun hs => ?_
 unfold bchained_M at hm
 refine W.sr fun K1 hK1 => ?_
 refine zE 2 (hK1 _ _ ?_)
 refine W.sr fun K2 hK2 => ?_
 refine zR 1 ?_
 obtain ⟨r3, h4, hm⟩ := bind_some hm
 refine zC00 hs (bchain_walk (img := img) (l := l) (gw := gw) (gi := gi) (gb := gb) (n_ := n_) (hmb := (hs.old hmb)) (hv := (viewAt_old hs hv)) (hm := h4) B _) fun w5 hs7 => ?_
 refine zE 1 (hK2 _ _ ?_)
 refine W.sr fun K8 hK8 => ?_
 refine zR 3 ?_
 refine ops_R (runs_loadAgg (ad := ⟨mb, 1, none⟩) (cs := [(.int .i64 gw), (.int .i64 gi), (.int .i64 gb)]) (by kernel_rfl) (cells_sub (hs7.old hmb) rfl)) ?_
 refine zR 1 ?_
 refine zC00 hs7 (blockat_spec (gw := gw) (gi := gi) (gb := gb) (n_ := r3) B _) fun w9 hs11 => ?_
 refine zR 1 ?_
 obtain ⟨h12, hm⟩ := need_some hm
 refine zI _ (wrap_i64 h12.1 h12.2) ?_
 obtain ⟨h13, hm⟩ := need_some hm
 refine zI _ (wrap_i64 h13.1 h13.2) ?_
 refine zR 3 ?_
 obtain ⟨r14, h15, hm⟩ := bind_some hm
 replace h15 := some_inj h15
 refine ops_set 4 (v := .int .i64 r14) (Eq.trans (by kernel_rfl) (congrArg (Value.int .i64) h15)) ?_
 refine zE 1 (hK8 _ _ ?_)
 refine W.ret ?_
 obtain rfl := some_inj hm
 refine ret_of (.tuple #[(.int .i64 r14), (.bool (!decide (r3 = 0)))]) (by kernel_rfl) ⟨_, ⟨rfl, rfl⟩, hs11⟩

end Go.Proofs.YtmmclabkkigiaaaDoor

set_option linter.unusedVariables false
set_option maxRecDepth 20000
set_option maxHeartbeats 2000000
namespace Go.Proofs.YtmmclabkkigiaaaDoor
open Go Go.RowKit
set_option linter.unusedSimpArgs false
set_option linter.unusedVariables false

def bword_M (img : List Int) (l : List (Int × Int)) (gw : Int) (gi : Int) (gb : Int) (n_ : Int) (k_ : Int) : Option (Int × Bool) :=
 if k_ ≥ 4 then ((bchained_M img l gw gi gb n_ k_).bind fun r7 =>
some (r7.1, r7.2)) else ((bdirect_M gw gi gb n_ k_).bind fun r13 =>
some (r13.1, r13.2))

theorem bword_walk {img : List Int} {l : List (Int × Int)} {gw : Int} {gi : Int} {gb : Int} {n_ : Int} {k_ : Int} {mb vb : Nat} {r : Int × Bool} (B : Nat) (w : World) (hmb : w.heap[mb]? = some (.cells [(.pointer (some ⟨vb, 0, none⟩)), (.int .i64 gw), (.int .i64 gi), (.int .i64 gb), (.int .i64 n_)].toArray 85 (0, 0))) (hv : ViewAt (ptr vb) img l w) (hm : bword_M img l gw gi gb n_ k_ = some r) : Spec Tryd.prog 40 #[(.pointer (some ⟨mb, 0, none⟩)), (.int .i64 k_)] B w [] (fun v H' => v = (.tuple #[(.int .i64 r.1), (.bool r.2)]) ∧ H' = []) := by
 refine spec_Q Tryd.func40 rfl fun hs => ?_
 unfold bword_M at hm
 refine W.sr fun K1 hK1 => ?_
 refine zE 2 (hK1 _ _ ?_)
 refine W.sr fun K2 hK2 => ?_
 refine zE 3 (hK2 _ _ ?_)
 refine W.seq fun K3 hK3 => ?_
 refine W.sr fun K4 hK4 => ?_
 refine zE 2 (hK4 _ _ ?_)
 refine W.cond (decide (k_ ≥ 4)) (by kernel_rfl) (fun h5 => ?_) (fun h5 => ?_)
 ·
  obtain ⟨h5p, hm⟩ := iY hm h5
  refine W.region ?_
  refine zE 3 (hK3 _ _ ?_)
  refine W.sr fun K6 hK6 => ?_
  refine zR 2 ?_
  obtain ⟨r7, h8, hm⟩ := bind_some hm
  refine zC00 hs (bchained_walk (k_ := k_) (img := img) (l := l) (gw := gw) (gi := gi) (gb := gb) (n_ := n_) (hmb := (hs.old hmb)) (hv := (viewAt_old hs hv)) (hm := h8) B _) fun w9 hs11 => ?_
  refine zE 4 (hK6 _ _ ?_)
  refine W.ret ?_
  obtain rfl := some_inj hm
  refine ret_of (.tuple #[(.int .i64 r7.1), (.bool r7.2)]) (by kernel_rfl) ⟨_, ⟨rfl, rfl⟩, hs11⟩
 ·
  obtain ⟨h5p, hm⟩ := iN hm h5
  refine W.skip ?_
  refine hK3 _ _ ?_
  refine W.sr fun K12 hK12 => ?_
  refine zR 2 ?_
  obtain ⟨r13, h14, hm⟩ := bind_some hm
  refine zC00 hs (bdirect_walk (k_ := k_) (img := img) (l := l) (gw := gw) (gi := gi) (gb := gb) (n_ := n_) (hmb := (hs.old hmb)) (hv := (viewAt_old hs hv)) (hm := h14) B _) fun w15 hs17 => ?_
  refine zE 4 (hK12 _ _ ?_)
  refine W.ret ?_
  obtain rfl := some_inj hm
  refine ret_of (.tuple #[(.int .i64 r13.1), (.bool r13.2)]) (by kernel_rfl) ⟨_, ⟨rfl, rfl⟩, hs17⟩

end Go.Proofs.YtmmclabkkigiaaaDoor

set_option linter.unusedVariables false
set_option maxRecDepth 20000
set_option maxHeartbeats 2000000
namespace Go.Proofs.YtmmclabkkigiaaaDoor
open Go Go.RowKit
set_option linter.unusedSimpArgs false
set_option linter.unusedVariables false

def bat_J2 (img : List Int) (l : List (Int × Int)) (gw : Int) (gi : Int) (gb : Int) (n_ : Int) (k_ : Int) (p5 : Int) : Option (Int × Int) :=
 if p5 = 0 then ((bword_M img l gw gi gb n_ k_).bind fun r11 =>
if r11.2 = true then (need (0 ≤ gb ∧ gb ≤ 18446744073709551615) <|
if (vget img l r11.1) ≥ gb then (some (0, 4)) else (need (-9223372036854775808 ≤ (vget img l r11.1) ∧ (vget img l r11.1) ≤ 9223372036854775807) <|
some ((vget img l r11.1), 0))) else (some (0, 0))) else (some (0, p5))

def bat_J1 (img : List Int) (l : List (Int × Int)) (gw : Int) (gi : Int) (gb : Int) (n_ : Int) (k_ : Int) : Option (Int × Int) :=
 (some (igetM img l gw gi gb n_)).bind fun r33 =>
bat_J2 img l gw gi gb n_ k_ r33.2

def bat_M (img : List Int) (l : List (Int × Int)) (gw : Int) (gi : Int) (gb : Int) (n_ : Int) (k_ : Int) : Option (Int × Int) :=
 if k_ < 0 then (if k_ < 0 then (some (0, 1)) else (bat_J1 img l gw gi gb n_ k_)) else (if k_ ≥ 12 then (some (0, 1)) else (bat_J1 img l gw gi gb n_ k_))

theorem bat_walk {img : List Int} {l : List (Int × Int)} {gw : Int} {gi : Int} {gb : Int} {n_ : Int} {k_ : Int} {mb vb : Nat} {r : Int × Int} (B : Nat) (w : World) (hmb : w.heap[mb]? = some (.cells [(.pointer (some ⟨vb, 0, none⟩)), (.int .i64 gw), (.int .i64 gi), (.int .i64 gb), (.int .i64 n_)].toArray 85 (0, 0))) (hv : ViewAt (ptr vb) img l w) (hm : bat_M img l gw gi gb n_ k_ = some r) : Spec Tryd.prog 12 #[(.pointer (some ⟨mb, 0, none⟩)), (.int .i64 k_)] B w [] (fun v H' => v = (.tuple #[(.int .i64 r.1), (.int .i64 r.2)]) ∧ H' = []) := by
 refine spec_Q Tryd.func12 rfl fun hs => ?_
 unfold bat_M at hm
 refine W.sr fun K1 hK1 => ?_
 refine zE 2 (hK1 _ _ ?_)
 refine W.seq_join (fun s_ w_ => (∃ us, s_ = slots 62 [(0, (.pointer (some ⟨mb, 0, none⟩))), (1, (.int .i64 k_))] us) ∧ St B w [] w_ [] ∧ bat_J1 img l gw gi gb n_ k_ = some r) ?_ ?_
 ·
  rintro _ w2 ⟨⟨us, rfl⟩, hs3, hm⟩
  unfold bat_J1 at hm
  refine W.seq fun K4 hK4 => ?_
  refine W.seq_join (fun s_ w_ => ∃ (p5 : Int), (∃ us, s_ = slots 62 [(0, (.pointer (some ⟨mb, 0, none⟩))), (1, (.int .i64 k_)), (7, (.int .i64 p5))] us) ∧ St B w [] w_ [] ∧ bat_J2 img l gw gi gb n_ k_ p5 = some r) ?_ ?_
  ·
   rintro _ w6 ⟨p5, ⟨us, rfl⟩, hs7, hm⟩
   unfold bat_J2 at hm
   refine W.sr fun K8 hK8 => ?_
   refine zE 2 (hK8 _ _ ?_)
   refine W.cond (!decide (p5 = 0)) (by kernel_rfl) (fun h9 => ?_) (fun h9 => ?_)
   rotate_left
   ·
    have h9p : p5 = 0 := of_decide_eq_true (bnot_false h9)
    replace hm := ite_yes hm h9p
    refine W.skip ?_
    refine hK4 _ _ ?_
    refine W.sr fun K10 hK10 => ?_
    refine zR 2 ?_
    obtain ⟨r11, h12, hm⟩ := bind_some hm
    refine zC00 hs7 (bword_walk (k_ := k_) (img := img) (l := l) (gw := gw) (gi := gi) (gb := gb) (n_ := n_) (hmb := (hs7.old hmb)) (hv := (viewAt_old hs7 hv)) (hm := h12) B _) fun w13 hs15 => ?_
    refine zE 5 (hK10 _ _ ?_)
    refine W.seq fun K16 hK16 => ?_
    refine W.sr fun K17 hK17 => ?_
    refine zE 2 (hK17 _ _ ?_)
    refine W.cond (!r11.2) (by kernel_rfl) (fun h18 => ?_) (fun h18 => ?_)
    rotate_left
    ·
     have h18p : r11.2 = true := (bnot_false h18)
     replace hm := ite_yes hm h18p
     refine W.skip ?_
     refine hK16 _ _ ?_
     refine W.sr fun K19 hK19 => ?_
     refine zR 3 ?_
     refine zL ⟨mb, 0, none⟩ (.pointer (some ⟨vb, 0, none⟩)) (cell_of_blk (hs15.old hmb) rfl) ?_
     refine zR 1 ?_
     refine zC00 hs15 (get_spec (at_ := r11.1) (hv := (viewAt_old hs15 hv)) B _) fun w20 hs22 => ?_
     refine zE 1 (hK19 _ _ ?_)
     refine W.seq fun K23 hK23 => ?_
     refine W.sr fun K24 hK24 => ?_
     refine zR 5 ?_
     refine zL ⟨mb, 3, none⟩ (.int .i64 gb) (cell_of_blk (hs22.old hmb) rfl) ?_
     obtain ⟨h25, hm⟩ := need_some hm
     refine zI _ (wrap_u64 h25.1 (Int.lt_of_le_of_lt h25.2 (by decide))) ?_
     refine zE 1 (hK24 _ _ ?_)
     refine W.cond (decide ((vget img l r11.1) ≥ gb)) (by kernel_rfl) (fun h26 => ?_) (fun h26 => ?_)
     ·
      obtain ⟨h26p, hm⟩ := iY hm h26
      refine W.sr fun K27 hK27 => ?_
      refine zE 2 (hK27 _ _ ?_)
      refine W.ret (ret_seq ?_)
      obtain rfl := some_inj hm
      refine ret_of (.tuple #[(.int .i64 0), (.int .i64 4)]) (by kernel_rfl) ⟨_, ⟨rfl, rfl⟩, hs22⟩
     ·
      obtain ⟨h26p, hm⟩ := iN hm h26
      refine W.skip ?_
      refine hK23 _ _ ?_
      refine W.sr fun K28 hK28 => ?_
      refine zR 1 ?_
      obtain ⟨h29, hm⟩ := need_some hm
      refine zI _ (wrap_i64 h29.1 h29.2) ?_
      refine zE 2 (hK28 _ _ ?_)
      refine W.ret ?_
      obtain rfl := some_inj hm
      refine ret_of (.tuple #[(.int .i64 (vget img l r11.1)), (.int .i64 0)]) (by kernel_rfl) ⟨_, ⟨rfl, rfl⟩, hs22⟩
    ·
     have h18p : ¬ (r11.2 = true) := ne_true_of_eq_false (bnot_true h18)
     replace hm := ite_no hm h18p
     refine W.sr fun K30 hK30 => ?_
     refine zE 2 (hK30 _ _ ?_)
     refine W.ret (ret_seq ?_)
     obtain rfl := some_inj hm
     refine ret_of (.tuple #[(.int .i64 0), (.int .i64 0)]) (by kernel_rfl) ⟨_, ⟨rfl, rfl⟩, hs15⟩
   ·
    have h9p : ¬ (p5 = 0) := of_decide_eq_false (bnot_true h9)
    replace hm := ite_no hm h9p
    refine W.sr fun K31 hK31 => ?_
    refine zE 3 (hK31 _ _ ?_)
    refine W.ret (ret_seq ?_)
    obtain rfl := some_inj hm
    refine ret_of (.tuple #[(.int .i64 0), (.int .i64 p5)]) (by kernel_rfl) ⟨_, ⟨rfl, rfl⟩, hs7⟩
  ·
   have hs32 := hs3.drew
   refine W.regionD [(0, 0), (1, 1), (2, 2), (4, 4), (0, 0), (16, 16), (32, 32), (64, 64), (0, 0), (256, 256), (512, 512), (1024, 1024), (2184, 2184), (4096, 4096), (8192, 8192), (8192, 8192), (0, 0), (98303, 81920), (262143, 32768)] (fun w_ => St B w [] w_ []) (by kernel_rfl) hs32 ?_
   refine any_val (v := (.pointer (some ⟨mb, 0, none⟩))) (v' := (.pointer (some ⟨mb, 0, none⟩))) 0 (by kernel_rfl) (fun _ => by kernel_rfl) rfl hs32 ?_
   refine any_val (v := (.pointer (some ⟨mb, 0, none⟩))) (v' := (.pointer (some ⟨mb, 0, none⟩))) 1 (by kernel_rfl) (fun _ => by kernel_rfl) rfl hs32 ?_
   refine any_val (v := (.pointer (some ⟨mb, 0, none⟩))) (v' := (.pointer (some ⟨mb, 0, none⟩))) 2 (by kernel_rfl) (fun _ => by kernel_rfl) rfl hs32 ?_
   refine any_R 3 (by kernel_rfl) (fun _ hS_ => runs_load (ad := ⟨mb, 0, none⟩) (v := (.pointer (some ⟨vb, 0, none⟩))) (by kernel_rfl) (cell_of_blk (hS_.old hmb) rfl)) hs32 ?_
   refine any_val (v := (.pointer (some ⟨mb, 0, none⟩))) (v' := (.pointer (some ⟨mb, 0, none⟩))) 4 (by kernel_rfl) (fun _ => by kernel_rfl) rfl hs32 ?_
   refine any_val (v := (.pointer (some ⟨mb, 0, none⟩))) (v' := (.pointer (some ⟨mb, 0, none⟩))) 5 (by kernel_rfl) (fun _ => by kernel_rfl) rfl hs32 ?_
   refine any_val (v := (.pointer (some ⟨mb, 1, none⟩))) (v' := (.pointer (some ⟨mb, 1, none⟩))) 6 (by kernel_rfl) (fun _ => by kernel_rfl) rfl hs32 ?_
   refine any_R 7 (by kernel_rfl) (fun _ hS_ => runs_loadAgg (ad := ⟨mb, 1, none⟩) (cs := [(.int .i64 gw), (.int .i64 gi), (.int .i64 gb)]) (by kernel_rfl) (cells_sub (hS_.old hmb) rfl)) hs32 ?_
   refine any_val (v := (.pointer (some ⟨mb, 0, none⟩))) (v' := (.pointer (some ⟨mb, 0, none⟩))) 8 (by kernel_rfl) (fun _ => by kernel_rfl) rfl hs32 ?_
   refine any_val (v := (.pointer (some ⟨mb, 0, none⟩))) (v' := (.pointer (some ⟨mb, 0, none⟩))) 9 (by kernel_rfl) (fun _ => by kernel_rfl) rfl hs32 ?_
   refine any_val (v := (.pointer (some ⟨mb, 4, none⟩))) (v' := (.pointer (some ⟨mb, 4, none⟩))) 10 (by kernel_rfl) (fun _ => by kernel_rfl) rfl hs32 ?_
   refine any_R 11 (by kernel_rfl) (fun _ hS_ => runs_load (ad := ⟨mb, 4, none⟩) (v := (.int .i64 n_)) (by kernel_rfl) (cell_of_blk (hS_.old hmb) rfl)) hs32 ?_
   refine any_step2 12 16 (by kernel_rfl) (by kernel_rfl) (by kernel_rfl) ?_ ?_
   ·
    obtain ⟨r33, h34, hm⟩ := bind_some hm
    replace h34 := some_inj h34
    refine ops_call0 hs32 (by kernel_rfl) (ig_spec (gw := gw) (gi := gi) (gb := gb) (n_ := n_) (hv := (viewAt_old hs32 hv)) B _) ?_
    rintro _ _ w35 ⟨hv37, hH38⟩ hs36
    rw [h34] at hv37
    try rw [h34] at hH38
    subst hv37 hH38
    have hs39 := St.ap0 hs36
    refine ops_done (by kernel_rfl) ⟨hs39, ?_⟩
    refine any_val (v := (.tuple #[(.agg #[(.int .u64 r33.1.k), (.int .u64 r33.1.l), (.int .u64 r33.1.o), (.int .u64 r33.1.s), (.int .u64 r33.1.a), (.int .u64 r33.1.b), (.int .u64 r33.1.c), (.int .u64 r33.1.d), (.int .u64 r33.1.e), (.int .u64 r33.1.m)]), (.int .i64 r33.2)])) (v' := (.tuple #[(.agg #[(.int .u64 r33.1.k), (.int .u64 r33.1.l), (.int .u64 r33.1.o), (.int .u64 r33.1.s), (.int .u64 r33.1.a), (.int .u64 r33.1.b), (.int .u64 r33.1.c), (.int .u64 r33.1.d), (.int .u64 r33.1.e), (.int .u64 r33.1.m)]), (.int .i64 r33.2)])) 13 (by kernel_rfl) (fun _ => by kernel_rfl) rfl hs39 ?_
    refine any_val (v := (.agg #[(.int .u64 r33.1.k), (.int .u64 r33.1.l), (.int .u64 r33.1.o), (.int .u64 r33.1.s), (.int .u64 r33.1.a), (.int .u64 r33.1.b), (.int .u64 r33.1.c), (.int .u64 r33.1.d), (.int .u64 r33.1.e), (.int .u64 r33.1.m)])) (v' := (.agg #[(.int .u64 r33.1.k), (.int .u64 r33.1.l), (.int .u64 r33.1.o), (.int .u64 r33.1.s), (.int .u64 r33.1.a), (.int .u64 r33.1.b), (.int .u64 r33.1.c), (.int .u64 r33.1.d), (.int .u64 r33.1.e), (.int .u64 r33.1.m)])) 14 (by kernel_rfl) (fun _ => by kernel_rfl) rfl hs39 ?_
    refine any_val (v := (.int .i64 r33.2)) (v' := (.int .i64 r33.2)) 15 (by kernel_rfl) (fun _ => by kernel_rfl) rfl hs39 ?_
    refine any_step 16 (by kernel_rfl) (by kernel_rfl) ?_
    refine zN [(.int .u64 0), (.int .u64 0), (.int .u64 0), (.int .u64 0), (.int .u64 0), (.int .u64 0), (.int .u64 0), (.int .u64 0), (.int .u64 0), (.int .u64 0)] 78 hs39 fun b42 w40 hs41 => ?_
    have hs43 := St.tk0 hs41
    refine ops_done (by kernel_rfl) ⟨hs43, ?_⟩
    refine any_step 17 (by kernel_rfl) (by kernel_rfl) ?_
    refine ops_store (off := 0) (cs := [(.int .u64 0), (.int .u64 0), (.int .u64 0), (.int .u64 0), (.int .u64 0), (.int .u64 0), (.int .u64 0), (.int .u64 0), (.int .u64 0), (.int .u64 0)]) (vs := [(.int .u64 r33.1.k), (.int .u64 r33.1.l), (.int .u64 r33.1.o), (.int .u64 r33.1.s), (.int .u64 r33.1.a), (.int .u64 r33.1.b), (.int .u64 r33.1.c), (.int .u64 r33.1.d), (.int .u64 r33.1.e), (.int .u64 r33.1.m)]) hs41 (by kernel_rfl) (by simp) rfl (fun w44 hs45 => ?_)
    have hs46 : St B w [] w44 [blk b42 (.cells [(.int .u64 r33.1.k), (.int .u64 r33.1.l), (.int .u64 r33.1.o), (.int .u64 r33.1.s), (.int .u64 r33.1.a), (.int .u64 r33.1.b), (.int .u64 r33.1.c), (.int .u64 r33.1.d), (.int .u64 r33.1.e), (.int .u64 r33.1.m)].toArray 78 (0, 0))] := hs45
    have hs47 := St.tk0 hs46
    refine ops_done (by kernel_rfl) ⟨hs47, ?_⟩
    refine any_val (v := (.int .i64 r33.2)) (v' := (.int .i64 r33.2)) 18 (by kernel_rfl) (fun _ => by kernel_rfl) rfl hs47 ?_
    refine any_done (by kernel_rfl) ?_
    have hs48 := St.tk0 hs46
    exact ⟨r33.2, slots_intro _ (by kernel_rfl), hs48, hm⟩
   ·
    refine zN [(.int .u64 0), (.int .u64 0), (.int .u64 0), (.int .u64 0), (.int .u64 0), (.int .u64 0), (.int .u64 0), (.int .u64 0), (.int .u64 0), (.int .u64 0)] 78 hs32 fun b51 w49 hs50 => ?_
    have hs52 := St.tk0 hs50
    refine ops_done (by kernel_rfl) ⟨hs52, ?_⟩
    refine any_step 12 (by kernel_rfl) (by kernel_rfl) ?_
    obtain ⟨r53, h54, hm⟩ := bind_some hm
    replace h54 := some_inj h54
    refine ops_call0 hs50 (by kernel_rfl) (ig_spec (gw := gw) (gi := gi) (gb := gb) (n_ := n_) (hv := (viewAt_old hs50 hv)) B _) ?_
    rintro _ _ w55 ⟨hv57, hH58⟩ hs56
    rw [h54] at hv57
    try rw [h54] at hH58
    subst hv57 hH58
    have hs59 := St.ap0 hs56
    have hs60 := St.tk0 hs59
    refine ops_done (by kernel_rfl) ⟨hs60, ?_⟩
    refine any_val (v := (.tuple #[(.agg #[(.int .u64 r53.1.k), (.int .u64 r53.1.l), (.int .u64 r53.1.o), (.int .u64 r53.1.s), (.int .u64 r53.1.a), (.int .u64 r53.1.b), (.int .u64 r53.1.c), (.int .u64 r53.1.d), (.int .u64 r53.1.e), (.int .u64 r53.1.m)]), (.int .i64 r53.2)])) (v' := (.tuple #[(.agg #[(.int .u64 r53.1.k), (.int .u64 r53.1.l), (.int .u64 r53.1.o), (.int .u64 r53.1.s), (.int .u64 r53.1.a), (.int .u64 r53.1.b), (.int .u64 r53.1.c), (.int .u64 r53.1.d), (.int .u64 r53.1.e), (.int .u64 r53.1.m)]), (.int .i64 r53.2)])) 13 (by kernel_rfl) (fun _ => by kernel_rfl) rfl hs60 ?_
    refine any_val (v := (.agg #[(.int .u64 r53.1.k), (.int .u64 r53.1.l), (.int .u64 r53.1.o), (.int .u64 r53.1.s), (.int .u64 r53.1.a), (.int .u64 r53.1.b), (.int .u64 r53.1.c), (.int .u64 r53.1.d), (.int .u64 r53.1.e), (.int .u64 r53.1.m)])) (v' := (.agg #[(.int .u64 r53.1.k), (.int .u64 r53.1.l), (.int .u64 r53.1.o), (.int .u64 r53.1.s), (.int .u64 r53.1.a), (.int .u64 r53.1.b), (.int .u64 r53.1.c), (.int .u64 r53.1.d), (.int .u64 r53.1.e), (.int .u64 r53.1.m)])) 14 (by kernel_rfl) (fun _ => by kernel_rfl) rfl hs60 ?_
    refine any_val (v := (.int .i64 r53.2)) (v' := (.int .i64 r53.2)) 15 (by kernel_rfl) (fun _ => by kernel_rfl) rfl hs60 ?_
    refine any_step 17 (by kernel_rfl) (by kernel_rfl) ?_
    refine ops_store (off := 0) (cs := [(.int .u64 0), (.int .u64 0), (.int .u64 0), (.int .u64 0), (.int .u64 0), (.int .u64 0), (.int .u64 0), (.int .u64 0), (.int .u64 0), (.int .u64 0)]) (vs := [(.int .u64 r53.1.k), (.int .u64 r53.1.l), (.int .u64 r53.1.o), (.int .u64 r53.1.s), (.int .u64 r53.1.a), (.int .u64 r53.1.b), (.int .u64 r53.1.c), (.int .u64 r53.1.d), (.int .u64 r53.1.e), (.int .u64 r53.1.m)]) hs59 (by kernel_rfl) (by simp) rfl (fun w61 hs62 => ?_)
    have hs63 : St B w [] w61 [blk b51 (.cells [(.int .u64 r53.1.k), (.int .u64 r53.1.l), (.int .u64 r53.1.o), (.int .u64 r53.1.s), (.int .u64 r53.1.a), (.int .u64 r53.1.b), (.int .u64 r53.1.c), (.int .u64 r53.1.d), (.int .u64 r53.1.e), (.int .u64 r53.1.m)].toArray 78 (0, 0))] := hs62
    have hs64 := St.tk0 hs63
    refine ops_done (by kernel_rfl) ⟨hs64, ?_⟩
    refine any_val (v := (.int .i64 r53.2)) (v' := (.int .i64 r53.2)) 18 (by kernel_rfl) (fun _ => by kernel_rfl) rfl hs64 ?_
    refine any_done (by kernel_rfl) ?_
    have hs65 := St.tk0 hs63
    exact ⟨r53.2, slots_intro _ (by kernel_rfl), hs65, hm⟩
 ·
  refine W.block ?_
  refine W.sr fun K66 hK66 => ?_
  refine zE 3 (hK66 _ _ ?_)
  refine W.cond_false false (by kernel_rfl) rfl ?_
  refine W.seq fun K67 hK67 => ?_
  refine W.sr fun K68 hK68 => ?_
  refine zE 3 (hK68 _ _ ?_)
  refine W.cond (decide (k_ < 0)) (by kernel_rfl) (fun h69 => ?_) (fun h69 => ?_)
  ·
   obtain ⟨h69p, hm⟩ := iY hm h69
   refine W.skip ?_
   refine hK67 _ _ ?_
   refine W.cond (decide (k_ < 0)) (by kernel_rfl) (fun h70 => ?_) (fun h70 => ?_)
   ·
    obtain ⟨h70p, hm⟩ := iY hm h70
    refine W.sr fun K71 hK71 => ?_
    refine zE 2 (hK71 _ _ ?_)
    refine W.ret (ret_block (ret_seq ?_))
    obtain rfl := some_inj hm
    refine ret_of (.tuple #[(.int .i64 0), (.int .i64 1)]) (by kernel_rfl) ⟨_, ⟨rfl, rfl⟩, hs⟩
   ·
    obtain ⟨h70p, hm⟩ := iN hm h70
    refine W.skip ?_
    refine normal_block ?_
    exact ⟨slots_intro _ (by kernel_rfl), hs, hm⟩
  ·
   obtain ⟨h69p, hm⟩ := iN hm h69
   refine W.region ?_
   refine zE 3 (hK67 _ _ ?_)
   refine W.cond (decide (k_ ≥ 12)) (by kernel_rfl) (fun h72 => ?_) (fun h72 => ?_)
   ·
    obtain ⟨h72p, hm⟩ := iY hm h72
    refine W.sr fun K73 hK73 => ?_
    refine zE 2 (hK73 _ _ ?_)
    refine W.ret (ret_block (ret_seq ?_))
    obtain rfl := some_inj hm
    refine ret_of (.tuple #[(.int .i64 0), (.int .i64 1)]) (by kernel_rfl) ⟨_, ⟨rfl, rfl⟩, hs⟩
   ·
    obtain ⟨h72p, hm⟩ := iN hm h72
    refine W.skip ?_
    refine normal_block ?_
    exact ⟨slots_intro _ (by kernel_rfl), hs, hm⟩

end Go.Proofs.YtmmclabkkigiaaaDoor

set_option linter.unusedVariables false
set_option maxRecDepth 20000
set_option maxHeartbeats 2000000
namespace Go.Proofs.YtmmclabkkigiaaaDoor
open Go Go.RowKit
set_option linter.unusedSimpArgs false
set_option linter.unusedVariables false

def bneed_M (img : List Int) (l : List (Int × Int)) (gw : Int) (gi : Int) (gb : Int) (n_ : Int) (k_ : Int) : Option (Int) :=
 (bat_M img l gw gi gb n_ k_).bind fun r3 =>
if r3.2 = 0 then (if r3.1 = 0 then ((bword_M img l gw gi gb n_ k_).bind fun r14 =>
if r14.2 = true then (some 1) else (some 2)) else (some 0)) else (some 0)

theorem bneed_walk {img : List Int} {l : List (Int × Int)} {gw : Int} {gi : Int} {gb : Int} {n_ : Int} {k_ : Int} {mb vb : Nat} {r : Int} (B : Nat) (w : World) (hmb : w.heap[mb]? = some (.cells [(.pointer (some ⟨vb, 0, none⟩)), (.int .i64 gw), (.int .i64 gi), (.int .i64 gb), (.int .i64 n_)].toArray 85 (0, 0))) (hv : ViewAt (ptr vb) img l w) (hm : bneed_M img l gw gi gb n_ k_ = some r) : Spec Tryd.prog 17 #[(.pointer (some ⟨mb, 0, none⟩)), (.int .i64 k_)] B w [] (fun v H' => v = (.int .i64 r) ∧ H' = []) := by
 refine spec_Q Tryd.func17 rfl fun hs => ?_
 unfold bneed_M at hm
 refine W.sr fun K1 hK1 => ?_
 refine zE 1 (hK1 _ _ ?_)
 refine W.sr fun K2 hK2 => ?_
 refine zR 2 ?_
 obtain ⟨r3, h4, hm⟩ := bind_some hm
 refine zC00 hs (bat_walk (k_ := k_) (img := img) (l := l) (gw := gw) (gi := gi) (gb := gb) (n_ := n_) (hmb := (hs.old hmb)) (hv := (viewAt_old hs hv)) (hm := h4) B _) fun w5 hs7 => ?_
 refine zE 5 (hK2 _ _ ?_)
 refine W.seq fun K8 hK8 => ?_
 refine W.sr fun K9 hK9 => ?_
 refine zR 3 ?_
 rcases Bool.eq_false_or_eq_true (!decide (r3.2 = 0)) with h10 | h10
 rotate_left
 ·
  have h10p : r3.2 = 0 := of_decide_eq_true (bnot_false h10)
  replace hm := ite_yes hm h10p
  refine zS 17 h10 ?_
  refine zS 16 h10 ?_
  refine zE 3 (hK9 _ _ ?_)
  refine W.cond (!decide (r3.1 = 0)) (by kernel_rfl) (fun h11 => ?_) (fun h11 => ?_)
  rotate_left
  ·
   have h11p : r3.1 = 0 := of_decide_eq_true (bnot_false h11)
   replace hm := ite_yes hm h11p
   refine W.skip ?_
   refine hK8 _ _ ?_
   refine W.seq fun K12 hK12 => ?_
   refine W.sr fun K13 hK13 => ?_
   refine zR 2 ?_
   obtain ⟨r14, h15, hm⟩ := bind_some hm
   refine zC00 hs7 (bword_walk (k_ := k_) (img := img) (l := l) (gw := gw) (gi := gi) (gb := gb) (n_ := n_) (hmb := (hs7.old hmb)) (hv := (viewAt_old hs7 hv)) (hm := h15) B _) fun w16 hs18 => ?_
   refine zE 5 (hK13 _ _ ?_)
   refine W.sr fun K19 hK19 => ?_
   refine zE 2 (hK19 _ _ ?_)
   refine W.cond (!r14.2) (by kernel_rfl) (fun h20 => ?_) (fun h20 => ?_)
   rotate_left
   ·
    have h20p : r14.2 = true := (bnot_false h20)
    replace hm := ite_yes hm h20p
    refine W.skip ?_
    refine hK12 _ _ ?_
    refine W.sr fun K21 hK21 => ?_
    refine zE 1 (hK21 _ _ ?_)
    refine W.ret ?_
    obtain rfl := some_inj hm
    refine ret_of (.int .i64 1) (by kernel_rfl) ⟨_, ⟨rfl, rfl⟩, hs18⟩
   ·
    have h20p : ¬ (r14.2 = true) := ne_true_of_eq_false (bnot_true h20)
    replace hm := ite_no hm h20p
    refine W.sr fun K22 hK22 => ?_
    refine zE 1 (hK22 _ _ ?_)
    refine W.ret (ret_seq ?_)
    obtain rfl := some_inj hm
    refine ret_of (.int .i64 2) (by kernel_rfl) ⟨_, ⟨rfl, rfl⟩, hs18⟩
  ·
   have h11p : ¬ (r3.1 = 0) := of_decide_eq_false (bnot_true h11)
   replace hm := ite_no hm h11p
   refine W.sr fun K23 hK23 => ?_
   refine zE 1 (hK23 _ _ ?_)
   refine W.ret (ret_seq ?_)
   obtain rfl := some_inj hm
   refine ret_of (.int .i64 0) (by kernel_rfl) ⟨_, ⟨rfl, rfl⟩, hs7⟩
 ·
  have h10p : ¬ (r3.2 = 0) := of_decide_eq_false (bnot_true h10)
  replace hm := ite_no hm h10p
  refine zS 17 h10 ?_
  refine zS 16 h10 ?_
  refine zE 3 (hK9 _ _ ?_)
  refine W.cond_true true (by kernel_rfl) rfl ?_
  refine W.sr fun K24 hK24 => ?_
  refine zE 1 (hK24 _ _ ?_)
  refine W.ret (ret_seq ?_)
  obtain rfl := some_inj hm
  refine ret_of (.int .i64 0) (by kernel_rfl) ⟨_, ⟨rfl, rfl⟩, hs7⟩

def bbare_B0 (img : List Int) (l : List (Int × Int)) (gw : Int) (gi : Int) (gb : Int) (b_ : Int) (k5 : Int → Option (Bool)) (p4 : Int) : Option (Bool) :=
 if p4 < 8 then (need (-9223372036854775808 ≤ ((placeOf 9 gw gi gb b_) + p4) ∧ ((placeOf 9 gw gi gb b_) + p4) ≤ 9223372036854775807) <|
if (vget img l ((placeOf 9 gw gi gb b_) + p4)) = 0 then (need (-9223372036854775808 ≤ (p4 + 1) ∧ (p4 + 1) ≤ 9223372036854775807) <|
k5 (p4 + 1)) else (some false)) else (some true)

def bbare_M (img : List Int) (l : List (Int × Int)) (gw : Int) (gi : Int) (gb : Int) (b_ : Int) : Option (Bool) :=
 iter (fun k_ s_ => bbare_B0 img l gw gi gb b_ k_ s_) FUEL 0

theorem bbare_walk {img : List Int} {l : List (Int × Int)} {gw : Int} {gi : Int} {gb : Int} {n_ : Int} {b_ : Int} {mb vb : Nat} {r : Bool} (B : Nat) (w : World) (hmb : w.heap[mb]? = some (.cells [(.pointer (some ⟨vb, 0, none⟩)), (.int .i64 gw), (.int .i64 gi), (.int .i64 gb), (.int .i64 n_)].toArray 85 (0, 0))) (hv : ViewAt (ptr vb) img l w) (hm : bbare_M img l gw gi gb b_ = some r) : Spec Tryd.prog 51 #[(.pointer (some ⟨mb, 0, none⟩)), (.int .i64 b_)] B w [] (fun v H' => v = (.bool r) ∧ H' = []) := by
 refine spec_Q Tryd.func51 rfl fun hs => ?_
 unfold bbare_M at hm
 refine W.sr fun K1 hK1 => ?_
 refine zE 1 (hK1 _ _ ?_)
 refine W.seq fun K2 hK2 => ?_
 refine W.sr fun K3 hK3 => ?_
 refine zE 1 (hK3 _ _ ?_)
 refine W.block ?_
 refine W.loop_iter (G := Int) (σ := Int) (fun | p4 => p4) (fun | p4, s_, w_ => (∃ us, s_ = slots 24 [(0, (.pointer (some ⟨mb, 0, none⟩))), (1, (.int .i64 b_)), (6, (.int .i64 p4))] us) ∧ St B w [] w_ []) 0 ⟨slots_intro _ (by kernel_rfl), hs⟩ hm ?_
 rintro k5 ih6 p4 _ w7 ⟨⟨us, rfl⟩, hs8⟩ hm
 replace hm : bbare_B0 img l gw gi gb b_ k5 p4 = some r := hm
 unfold bbare_B0 at hm
 refine W.sr fun K9 hK9 => ?_
 refine zE 1 (hK9 _ _ ?_)
 refine W.seq fun K10 hK10 => ?_
 refine W.cond (decide (p4 < 8)) (by kernel_rfl) (fun h11 => ?_) (fun h11 => ?_)
 ·
  obtain ⟨h11p, hm⟩ := iY hm h11
  refine W.skip ?_
  refine hK10 _ _ ?_
  refine W.seq fun K12 hK12 => ?_
  refine W.block ?_
  refine W.sr fun K13 hK13 => ?_
  refine zE 2 (hK13 _ _ ?_)
  refine W.seq fun K14 hK14 => ?_
  have hs15 := hs8.drew
  refine W.regionD [(0, 0), (1, 1), (2, 2), (4, 4), (0, 0), (16, 16), (32, 32), (64, 64), (0, 0), (384, 384), (0, 0), (1536, 1536), (2568, 2056), (4096, 4096)] (fun w_ => St B w [] w_ []) (by kernel_rfl) hs15 ?_
  refine any_val (v := (.pointer (some ⟨mb, 0, none⟩))) (v' := (.pointer (some ⟨mb, 0, none⟩))) 0 (by kernel_rfl) (fun _ => by kernel_rfl) rfl hs15 ?_
  refine any_val (v := (.pointer (some ⟨mb, 0, none⟩))) (v' := (.pointer (some ⟨mb, 0, none⟩))) 1 (by kernel_rfl) (fun _ => by kernel_rfl) rfl hs15 ?_
  refine any_val (v := (.pointer (some ⟨mb, 0, none⟩))) (v' := (.pointer (some ⟨mb, 0, none⟩))) 2 (by kernel_rfl) (fun _ => by kernel_rfl) rfl hs15 ?_
  refine any_R 3 (by kernel_rfl) (fun _ hS_ => runs_load (ad := ⟨mb, 0, none⟩) (v := (.pointer (some ⟨vb, 0, none⟩))) (by kernel_rfl) (cell_of_blk (hS_.old hmb) rfl)) hs15 ?_
  refine any_val (v := (.pointer (some ⟨mb, 0, none⟩))) (v' := (.pointer (some ⟨mb, 0, none⟩))) 4 (by kernel_rfl) (fun _ => by kernel_rfl) rfl hs15 ?_
  refine any_val (v := (.pointer (some ⟨mb, 0, none⟩))) (v' := (.pointer (some ⟨mb, 0, none⟩))) 5 (by kernel_rfl) (fun _ => by kernel_rfl) rfl hs15 ?_
  refine any_val (v := (.pointer (some ⟨mb, 1, none⟩))) (v' := (.pointer (some ⟨mb, 1, none⟩))) 6 (by kernel_rfl) (fun _ => by kernel_rfl) rfl hs15 ?_
  refine any_R 7 (by kernel_rfl) (fun _ hS_ => runs_loadAgg (ad := ⟨mb, 1, none⟩) (cs := [(.int .i64 gw), (.int .i64 gi), (.int .i64 gb)]) (by kernel_rfl) (cells_sub (hS_.old hmb) rfl)) hs15 ?_
  refine any_val (v := (.int .i64 b_)) (v' := (.int .i64 b_)) 8 (by kernel_rfl) (fun _ => by kernel_rfl) rfl hs15 ?_
  refine any_val (v := (.int .i64 p4)) (v' := (.int .i64 p4)) 10 (by kernel_rfl) (fun _ => by kernel_rfl) rfl hs15 ?_
  refine any_step 9 (by kernel_rfl) (by kernel_rfl) ?_
  refine zC00 hs15 (blockat_spec (gw := gw) (gi := gi) (gb := gb) (n_ := b_) B _) fun w16 hs18 => ?_
  refine ops_done (by kernel_rfl) ⟨hs18, ?_⟩
  obtain ⟨h19, hm⟩ := need_some hm
  refine any_val (v := .int .i64 (IntKind.i64.wrap ((placeOf 9 gw gi gb b_) + p4))) (v' := .int .i64 ((placeOf 9 gw gi gb b_) + p4)) 11 (by kernel_rfl) (fun _ => by kernel_rfl) (congrArg (Value.int .i64) (wrap_i64 h19.1 h19.2)) hs18 ?_
  refine any_step 12 (by kernel_rfl) (by kernel_rfl) ?_
  refine zC00 hs18 (get_spec (at_ := ((placeOf 9 gw gi gb b_) + p4)) (hv := (viewAt_old hs18 hv)) B _) fun w20 hs22 => ?_
  refine ops_done (by kernel_rfl) ⟨hs22, ?_⟩
  refine any_val (v := (.bool (!decide ((vget img l ((placeOf 9 gw gi gb b_) + p4)) = 0)))) (v' := (.bool (!decide ((vget img l ((placeOf 9 gw gi gb b_) + p4)) = 0)))) 13 (by kernel_rfl) (fun _ => by kernel_rfl) rfl hs22 ?_
  refine any_done (by kernel_rfl) ?_
  refine hK14 _ _ ?_
  refine W.cond (!decide ((vget img l ((placeOf 9 gw gi gb b_) + p4)) = 0)) (by kernel_rfl) (fun h23 => ?_) (fun h23 => ?_)
  rotate_left
  ·
   have h23p : (vget img l ((placeOf 9 gw gi gb b_) + p4)) = 0 := of_decide_eq_true (bnot_false h23)
   replace hm := ite_yes hm h23p
   refine W.skip ?_
   refine normal_block ?_
   refine hK12 _ _ ?_
   refine W.region ?_
   obtain ⟨h24, hm⟩ := need_some hm
   refine zI _ (wrap_i64 h24.1 h24.2) ?_
   refine zE 1 ?_
   refine loopAt_next ?_
   exact ih6 (p4 + 1) _ _ ⟨slots_intro _ (by kernel_rfl), hs22⟩ hm
  ·
   have h23p : ¬ ((vget img l ((placeOf 9 gw gi gb b_) + p4)) = 0) := of_decide_eq_false (bnot_true h23)
   replace hm := ite_no hm h23p
   refine W.sr fun K25 hK25 => ?_
   refine zE 1 (hK25 _ _ ?_)
   refine W.ret (ret_block (ret_seq (ret_seq (ret_block (ret_seq ?_)))))
   obtain rfl := some_inj hm
   refine ret_of (.bool false) (by kernel_rfl) ⟨_, ⟨rfl, rfl⟩, hs22⟩
 ·
  obtain ⟨h11p, hm⟩ := iN hm h11
  refine W.exit (exit_seq (exit_seq (exit_here ?_)))
  refine hK2 _ _ ?_
  refine W.sr fun K26 hK26 => ?_
  refine zE 1 (hK26 _ _ ?_)
  refine W.ret ?_
  obtain rfl := some_inj hm
  refine ret_of (.bool true) (by kernel_rfl) ⟨_, ⟨rfl, rfl⟩, hs8⟩

end Go.Proofs.YtmmclabkkigiaaaDoor

set_option linter.unusedVariables false
set_option maxRecDepth 20000
set_option maxHeartbeats 4000000
namespace Go.Proofs.YtmmclabkkigiaaaDoor
open Go Go.RowKit
set_option linter.unusedSimpArgs false
set_option linter.unusedVariables false

def btake_J2 (r18 : Int × Int × List (Int × Int)) (p30 : Int) (l31 : List (Int × Int)) : Option (Int × Int × List (Int × Int)) :=
 if p30 = 0 then (some (r18.1, 0, l31)) else (some (0, p30, l31))

def btake_J1 (img : List Int) (at_ : Int) (r18 : Int × Int × List (Int × Int)) (p27 : Int) : Option (Int × Int × List (Int × Int)) :=
 if p27 = 0 then (need (0 ≤ r18.1 ∧ r18.1 ≤ 18446744073709551615) <|
(some ((vwrite img r18.2.2 at_ r18.1).1)).bind fun r49 =>
btake_J2 r18 r49 ((vwrite img r18.2.2 at_ r18.1).2)) else (btake_J2 r18 p27 r18.2.2)

def btake_M (img : List Int) (l : List (Int × Int)) (gw : Int) (gi : Int) (gb : Int) (at_ : Int) : Option (Int × Int × List (Int × Int)) :=
 need ((img.length : Int) ≤ 1000000000000) <|
if May gw gi gb ∧ wordsOf gw gi gb ≤ (img.length : Int) then ((atakeb_M img l gw gi gb (placeOf 7 gw gi gb 0)).bind fun r18 =>
if r18.2.1 = 0 then (if r18.1 = 0 then (btake_J1 img at_ r18 4) else (btake_J1 img at_ r18 r18.2.1)) else (btake_J1 img at_ r18 r18.2.1)) else (if (if May gw gi gb then (8 : Int) else 1) = 0 then (some (0, 2, l)) else ((some (if May gw gi gb then (8 : Int) else 1)).bind fun r84 =>
some (0, r84, l)))

theorem btake_walk {img : List Int} {l : List (Int × Int)} {gw : Int} {gi : Int} {gb : Int} {n_ : Int} {at_ : Int} {mb vb : Nat} {r : Int × Int × List (Int × Int)} (B : Nat) (w : World) (hG : 0 < B) (hT : CellsAt (some ⟨0, 0, none⟩) tab8 w) (hm : btake_M img l gw gi gb at_ = some r) : Spec Tryd.prog 41 #[(.pointer (some ⟨mb, 0, none⟩)), (.int .i64 at_)] B w [blk mb (.cells [(.pointer (some ⟨vb, 0, none⟩)), (.int .i64 gw), (.int .i64 gi), (.int .i64 gb), (.int .i64 n_)].toArray 85 (0, 0)), viewA (ptr vb) img l] (fun v H' => v = (.tuple #[(.int .i64 r.1), (.int .i64 r.2.1)]) ∧ H' = [blk mb (.cells [(.pointer (some ⟨vb, 0, none⟩)), (.int .i64 gw), (.int .i64 gi), (.int .i64 gb), (.int .i64 n_)].toArray 85 (0, 0)), viewA (ptr vb) img r.2.2]) := by
 refine spec_W Tryd.func41 rfl fun l0 hs => ?_
 unfold btake_M at hm
 refine W.sr fun K1 hK1 => ?_
 refine zE 2 (hK1 _ _ ?_)
 refine W.seq fun K2 hK2 => ?_
 have hs3 := hs.drew
 refine W.regionD [(0, 0), (1, 1), (2, 2), (4, 4), (0, 0), (16, 16), (32, 32), (64, 64), (136, 136), (256, 256), (512, 512), (512, 512), (2047, 1024), (8191, 2048)] (fun w_ => St B w l0 w_ [blk mb (.cells [(.pointer (some ⟨vb, 0, none⟩)), (.int .i64 gw), (.int .i64 gi), (.int .i64 gb), (.int .i64 n_)].toArray 85 (0, 0)), viewA (ptr vb) img l]) (by kernel_rfl) hs3 ?_
 refine any_val (v := (.pointer (some ⟨mb, 0, none⟩))) (v' := (.pointer (some ⟨mb, 0, none⟩))) 0 (by kernel_rfl) (fun _ => by kernel_rfl) rfl hs3 ?_
 refine any_val (v := (.pointer (some ⟨mb, 0, none⟩))) (v' := (.pointer (some ⟨mb, 0, none⟩))) 1 (by kernel_rfl) (fun _ => by kernel_rfl) rfl hs3 ?_
 refine any_val (v := (.pointer (some ⟨mb, 0, none⟩))) (v' := (.pointer (some ⟨mb, 0, none⟩))) 2 (by kernel_rfl) (fun _ => by kernel_rfl) rfl hs3 ?_
 refine any_R 3 (by kernel_rfl) (fun _ hS_ => runs_load (ad := ⟨mb, 0, none⟩) (v := (.pointer (some ⟨vb, 0, none⟩))) (by kernel_rfl) (hS_.cellAt 0 rfl rfl)) hs3 ?_
 refine any_val (v := (.pointer (some ⟨mb, 0, none⟩))) (v' := (.pointer (some ⟨mb, 0, none⟩))) 4 (by kernel_rfl) (fun _ => by kernel_rfl) rfl hs3 ?_
 refine any_val (v := (.pointer (some ⟨mb, 0, none⟩))) (v' := (.pointer (some ⟨mb, 0, none⟩))) 5 (by kernel_rfl) (fun _ => by kernel_rfl) rfl hs3 ?_
 refine any_val (v := (.pointer (some ⟨mb, 1, none⟩))) (v' := (.pointer (some ⟨mb, 1, none⟩))) 6 (by kernel_rfl) (fun _ => by kernel_rfl) rfl hs3 ?_
 refine any_R 7 (by kernel_rfl) (fun _ hS_ => runs_loadAgg (ad := ⟨mb, 1, none⟩) (cs := [(.int .i64 gw), (.int .i64 gi), (.int .i64 gb)]) (by kernel_rfl) (cells_sub (hS_.heapAt 0 rfl) rfl)) hs3 ?_
 refine any_step 8 (by kernel_rfl) (by kernel_rfl) ?_
 obtain ⟨h4, hm⟩ := need_some hm
 rcases Bool.eq_false_or_eq_true (decide (May gw gi gb ∧ wordsOf gw gi gb ≤ (img.length : Int))) with h5 | h5
 ·
  obtain ⟨h5p, hm⟩ := iY hm h5
  refine ops_call0 hs3 (by kernel_rfl) (anew_ok (gw := gw) (gi := gi) (gb := gb) (hv := (hs3.entAt 1 rfl viewA_at)) (hz := h4) (hP := h5p) B _) ?_
  rintro _ _ w9 ⟨b6, b7, b8, rfl, rfl⟩ hs10
  have hs11 := St.ap3 hs10
  have hs12 := St.f4 hs11
  have hs13 := St.f4 hs12
  have hs14 := St.tk2 hs13
  refine ops_done (by kernel_rfl) ⟨hs14, ?_⟩
  refine any_val (v := (.tuple #[(.pointer (some ⟨b6, 0, none⟩)), (.int .i64 0)])) (v' := (.tuple #[(.pointer (some ⟨b6, 0, none⟩)), (.int .i64 0)])) 9 (by kernel_rfl) (fun _ => by kernel_rfl) rfl hs14 ?_
  refine any_val (v := (.pointer (some ⟨b6, 0, none⟩))) (v' := (.pointer (some ⟨b6, 0, none⟩))) 10 (by kernel_rfl) (fun _ => by kernel_rfl) rfl hs14 ?_
  refine any_val (v := (.int .i64 0)) (v' := (.int .i64 0)) 11 (by kernel_rfl) (fun _ => by kernel_rfl) rfl hs14 ?_
  refine any_val (v := (.pointer (some ⟨b6, 0, none⟩))) (v' := (.pointer (some ⟨b6, 0, none⟩))) 12 (by kernel_rfl) (fun _ => by kernel_rfl) rfl hs14 ?_
  refine any_val (v := (.int .i64 0)) (v' := (.int .i64 0)) 13 (by kernel_rfl) (fun _ => by kernel_rfl) rfl hs14 ?_
  refine any_done (by kernel_rfl) ?_
  refine hK2 _ _ ?_
  refine W.seq fun K15 hK15 => ?_
  refine W.sr fun K16 hK16 => ?_
  refine zE 2 (hK16 _ _ ?_)
  refine W.cond_false false (by kernel_rfl) rfl ?_
  refine W.skip ?_
  refine hK15 _ _ ?_
  refine W.sr fun K17 hK17 => ?_
  refine zR 1 ?_
  obtain ⟨r18, h19, hm⟩ := bind_some hm
  have hs20 := St.f4 hs11
  have hs21 := St.f3 hs20
  have hs22 := St.f3 hs21
  have hs23 := St.f3 hs22
  refine ops_call4 hs23 (by kernel_rfl) (atakeb_walk (ab := b6) (ib := b7) (bb := b8) (vb := vb) (img := img) (l := l) (gw := gw) (gi := gi) (gb := gb) (ia := (placeOf 6 gw gi gb 0)) (ba := (placeOf 7 gw gi gb 0)) (hG := hG) (hT := (hs11.oldCellsB hG hT)) (hm := h19) B _) ?_
  rintro _ _ w24 ⟨rfl, rfl⟩ hs25
  have hs26 := St.ap4 hs25
  refine zE 5 (hK17 _ _ ?_)
  refine W.seq_join (fun s_ w_ => ∃ (p27 : Int), (∃ us, s_ = slots 49 [(0, (.pointer (some ⟨mb, 0, none⟩))), (1, (.int .i64 at_)), (7, (.int .i64 p27)), (8, (.int .i64 r18.1))] us) ∧ St B w l0 w_ [viewA (ptr vb) img r18.2.2, blk mb (.cells [(.pointer (some ⟨vb, 0, none⟩)), (.int .i64 gw), (.int .i64 gi), (.int .i64 gb), (.int .i64 n_)].toArray 85 (0, 0)), blk b7 (.cells [(.pointer (some ⟨vb, 0, none⟩)), (.int .i64 (placeOf 6 gw gi gb 0)), (.int .i64 gi)].toArray 136 (0, 0)), blk b8 (.cells [(.pointer (some ⟨vb, 0, none⟩)), (.int .i64 (placeOf 7 gw gi gb 0)), (.int .i64 gb)].toArray 136 (0, 0)), blk b6 (.cells [(.pointer (some ⟨vb, 0, none⟩)), (.int .i64 gw), (.int .i64 gi), (.int .i64 gb), (.pointer (some ⟨b7, 0, none⟩)), (.int .i64 gi), (.pointer (some ⟨b8, 0, none⟩)), (.int .i64 gb)].toArray 114 (0, 0))] ∧ btake_J1 img at_ r18 p27 = some r) ?_ ?_
  ·
   rintro _ w28 ⟨p27, ⟨us, rfl⟩, hs29, hm⟩
   unfold btake_J1 at hm
   refine W.seq_join (fun s_ w_ => ∃ (p30 : Int) (l31 : List (Int × Int)), (∃ us, s_ = slots 49 [(7, (.int .i64 p30)), (8, (.int .i64 r18.1))] us) ∧ St B w l0 w_ [viewA (ptr vb) img l31, blk mb (.cells [(.pointer (some ⟨vb, 0, none⟩)), (.int .i64 gw), (.int .i64 gi), (.int .i64 gb), (.int .i64 n_)].toArray 85 (0, 0)), blk b7 (.cells [(.pointer (some ⟨vb, 0, none⟩)), (.int .i64 (placeOf 6 gw gi gb 0)), (.int .i64 gi)].toArray 136 (0, 0)), blk b8 (.cells [(.pointer (some ⟨vb, 0, none⟩)), (.int .i64 (placeOf 7 gw gi gb 0)), (.int .i64 gb)].toArray 136 (0, 0)), blk b6 (.cells [(.pointer (some ⟨vb, 0, none⟩)), (.int .i64 gw), (.int .i64 gi), (.int .i64 gb), (.pointer (some ⟨b7, 0, none⟩)), (.int .i64 gi), (.pointer (some ⟨b8, 0, none⟩)), (.int .i64 gb)].toArray 114 (0, 0))] ∧ btake_J2 r18 p30 l31 = some r) ?_ ?_
   ·
    rintro _ w32 ⟨p30, l31, ⟨us, rfl⟩, hs33, hm⟩
    unfold btake_J2 at hm
    refine W.seq fun K34 hK34 => ?_
    refine W.sr fun K35 hK35 => ?_
    refine zE 2 (hK35 _ _ ?_)
    refine W.cond (!decide (p30 = 0)) (by kernel_rfl) (fun h36 => ?_) (fun h36 => ?_)
    rotate_left
    ·
     have h36p : p30 = 0 := of_decide_eq_true (bnot_false h36)
     replace hm := ite_yes hm h36p
     refine W.skip ?_
     refine hK34 _ _ ?_
     refine W.sr fun K37 hK37 => ?_
     refine zE 3 (hK37 _ _ ?_)
     refine W.ret ?_
     obtain rfl := some_inj hm
     have hs38 := St.f1 hs33
     have hs39 := St.tk2 hs38
     refine ret_of (.tuple #[(.int .i64 r18.1), (.int .i64 0)]) (by kernel_rfl) ⟨_, ⟨rfl, rfl⟩, hs39⟩
    ·
     have h36p : ¬ (p30 = 0) := of_decide_eq_false (bnot_true h36)
     replace hm := ite_no hm h36p
     refine W.sr fun K40 hK40 => ?_
     refine zE 3 (hK40 _ _ ?_)
     refine W.ret (ret_seq ?_)
     obtain rfl := some_inj hm
     have hs41 := St.f1 hs33
     have hs42 := St.tk2 hs41
     refine ret_of (.tuple #[(.int .i64 0), (.int .i64 p30)]) (by kernel_rfl) ⟨_, ⟨rfl, rfl⟩, hs42⟩
   ·
    refine W.sr fun K43 hK43 => ?_
    refine zE 2 (hK43 _ _ ?_)
    refine W.cond (decide (p27 = 0)) (by kernel_rfl) (fun h44 => ?_) (fun h44 => ?_)
    ·
     obtain ⟨h44p, hm⟩ := iY hm h44
     refine W.region ?_
     refine zR 3 ?_
     refine zL ⟨mb, 0, none⟩ (.pointer (some ⟨vb, 0, none⟩)) (hs29.cellAt 1 rfl rfl) ?_
     refine zR 2 ?_
     obtain ⟨h45, hm⟩ := need_some hm
     refine zI _ (wrap_u64 h45.1 (Int.lt_of_le_of_lt h45.2 (by decide))) ?_
     refine zC11 hs29 (sset_spec (b := vb) (img := img) (l := r18.2.2) (at_ := at_) (x_ := r18.1) B _) fun w46 hs48 => ?_
     refine zR 1 ?_
     obtain ⟨r49, h50, hm⟩ := bind_some hm
     replace h50 := some_inj h50
     refine ops_set 7 (v := .int .i64 r49) (Eq.trans (by kernel_rfl) (congrArg (Value.int .i64) h50)) ?_
     refine zD ?_
     exact ⟨r49, ((vwrite img r18.2.2 at_ r18.1).2), slots_intro _ (by kernel_rfl), hs48, hm⟩
    ·
     obtain ⟨h44p, hm⟩ := iN hm h44
     refine W.skip ?_
     exact ⟨p27, r18.2.2, slots_intro _ (by kernel_rfl), hs29, hm⟩
  ·
   refine W.sr fun K51 hK51 => ?_
   refine zR 3 ?_
   rcases Bool.eq_false_or_eq_true (decide (r18.2.1 = 0)) with h52 | h52
   ·
    obtain ⟨h52p, hm⟩ := iY hm h52
    refine zS 31 h52 ?_
    refine zS 30 h52 ?_
    refine zE 3 (hK51 _ _ ?_)
    refine W.cond (decide (r18.1 = 0)) (by kernel_rfl) (fun h53 => ?_) (fun h53 => ?_)
    ·
     obtain ⟨h53p, hm⟩ := iY hm h53
     refine W.region ?_
     refine zE 1 ?_
     have hs54 := St.f2 hs26
     have hs55 := St.f2 hs54
     have hs56 := St.f4 hs55
     have hs57 := St.f4 hs56
     exact ⟨4, slots_intro _ (by kernel_rfl), hs57, hm⟩
    ·
     obtain ⟨h53p, hm⟩ := iN hm h53
     refine W.skip ?_
     have hs58 := St.f2 hs26
     have hs59 := St.f2 hs58
     have hs60 := St.f4 hs59
     have hs61 := St.f4 hs60
     exact ⟨r18.2.1, slots_intro _ (by kernel_rfl), hs61, hm⟩
   ·
    obtain ⟨h52p, hm⟩ := iN hm h52
    refine zS 31 h52 ?_
    refine zS 30 h52 ?_
    refine zE 3 (hK51 _ _ ?_)
    refine W.cond_false false (by kernel_rfl) rfl ?_
    refine W.skip ?_
    have hs62 := St.f2 hs26
    have hs63 := St.f2 hs62
    have hs64 := St.f4 hs63
    have hs65 := St.f4 hs64
    exact ⟨r18.2.1, slots_intro _ (by kernel_rfl), hs65, hm⟩
 ·
  obtain ⟨h5p, hm⟩ := iN hm h5
  refine zC00 hs3 (anew_err (gw := gw) (gi := gi) (gb := gb) (hv := (hs3.entAt 1 rfl viewA_at)) (hz := h4) (hN := h5p) B _) fun w66 hs68 => ?_
  refine ops_done (by kernel_rfl) ⟨hs68, ?_⟩
  refine any_val (v := (.tuple #[(.pointer none), (.int .i64 (if May gw gi gb then (8 : Int) else 1))])) (v' := (.tuple #[(.pointer none), (.int .i64 (if May gw gi gb then (8 : Int) else 1))])) 9 (by kernel_rfl) (fun _ => by kernel_rfl) rfl hs68 ?_
  refine any_val (v := (.pointer none)) (v' := (.pointer none)) 10 (by kernel_rfl) (fun _ => by kernel_rfl) rfl hs68 ?_
  refine any_val (v := (.int .i64 (if May gw gi gb then (8 : Int) else 1))) (v' := (.int .i64 (if May gw gi gb then (8 : Int) else 1))) 11 (by kernel_rfl) (fun _ => by kernel_rfl) rfl hs68 ?_
  refine any_val (v := (.pointer none)) (v' := (.pointer none)) 12 (by kernel_rfl) (fun _ => by kernel_rfl) rfl hs68 ?_
  refine any_val (v := (.int .i64 (if May gw gi gb then (8 : Int) else 1))) (v' := (.int .i64 (if May gw gi gb then (8 : Int) else 1))) 13 (by kernel_rfl) (fun _ => by kernel_rfl) rfl hs68 ?_
  refine any_done (by kernel_rfl) ?_
  refine hK2 _ _ ?_
  refine W.seq fun K69 hK69 => ?_
  refine W.sr fun K70 hK70 => ?_
  refine zE 2 (hK70 _ _ ?_)
  refine W.cond (!decide ((if May gw gi gb then (8 : Int) else 1) = 0)) (by kernel_rfl) (fun h71 => ?_) (fun h71 => ?_)
  rotate_left
  ·
   have h71p : (if May gw gi gb then (8 : Int) else 1) = 0 := of_decide_eq_true (bnot_false h71)
   replace hm := ite_yes hm h71p
   refine W.skip ?_
   refine hK69 _ _ ?_
   refine W.sr fun K72 hK72 => ?_
   refine zR 1 ?_
   refine zC00 hs68 (atakeb_nil B _) fun w73 hs75 => ?_
   refine zE 5 (hK72 _ _ ?_)
   refine W.seq fun K76 hK76 => ?_
   refine W.sr fun K77 hK77 => ?_
   refine zE 6 (hK77 _ _ ?_)
   refine W.cond_false false (by kernel_rfl) rfl ?_
   refine W.skip ?_
   refine hK76 _ _ ?_
   refine W.seq fun K78 hK78 => ?_
   refine W.sr fun K79 hK79 => ?_
   refine zE 2 (hK79 _ _ ?_)
   refine W.cond_false false (by kernel_rfl) rfl ?_
   refine W.skip ?_
   refine hK78 _ _ ?_
   refine W.seq fun K80 hK80 => ?_
   refine W.sr fun K81 hK81 => ?_
   refine zE 2 (hK81 _ _ ?_)
   refine W.cond_true true (by kernel_rfl) rfl ?_
   refine W.sr fun K82 hK82 => ?_
   refine zE 3 (hK82 _ _ ?_)
   refine W.ret (ret_seq ?_)
   obtain rfl := some_inj hm
   refine ret_of (.tuple #[(.int .i64 0), (.int .i64 2)]) (by kernel_rfl) ⟨_, ⟨rfl, rfl⟩, hs75⟩
  ·
   have h71p : ¬ ((if May gw gi gb then (8 : Int) else 1) = 0) := of_decide_eq_false (bnot_true h71)
   replace hm := ite_no hm h71p
   refine W.sr fun K83 hK83 => ?_
   refine zR 3 ?_
   obtain ⟨r84, h85, hm⟩ := bind_some hm
   replace h85 := some_inj h85
   refine ops_set 5 (v := .int .i64 r84) (Eq.trans (by kernel_rfl) (congrArg (Value.int .i64) h85)) ?_
   refine zD (hK83 _ _ ?_)
   refine W.ret (ret_seq ?_)
   obtain rfl := some_inj hm
   refine ret_of (.tuple #[(.int .i64 0), (.int .i64 r84)]) (by kernel_rfl) ⟨_, ⟨rfl, rfl⟩, hs68⟩

def bgive_J1 (img : List Int) (l : List (Int × Int)) (at_ : Int) (p45 : Int) : Option (Int × List (Int × Int)) :=
 if p45 = 0 then (some ((vwrite img l at_ 0).1, (vwrite img l at_ 0).2)) else (some (p45, l))

def bgive_M (img : List Int) (l : List (Int × Int)) (gw : Int) (gi : Int) (gb : Int) (at_ : Int) (b_ : Int) : Option (Int × List (Int × Int)) :=
 need ((img.length : Int) ≤ 1000000000000) <|
if May gw gi gb ∧ wordsOf gw gi gb ≤ (img.length : Int) then ((agiveb_M img l gb (placeOf 7 gw gi gb 0) b_).bind fun r17 =>
if r17.1 = 0 then ((some ((vwrite img r17.2 at_ 0).1)).bind fun r33 =>
some (r33, (vwrite img r17.2 at_ 0).2)) else (some (r17.1, r17.2))) else (if (if May gw gi gb then (8 : Int) else 1) = 0 then (bgive_J1 img l at_ 2) else (bgive_J1 img l at_ (if May gw gi gb then (8 : Int) else 1)))

theorem bgive_walk {img : List Int} {l : List (Int × Int)} {gw : Int} {gi : Int} {gb : Int} {n_ : Int} {at_ : Int} {b_ : Int} {mb vb : Nat} {r : Int × List (Int × Int)} (B : Nat) (w : World) (hm : bgive_M img l gw gi gb at_ b_ = some r) : Spec Tryd.prog 49 #[(.pointer (some ⟨mb, 0, none⟩)), (.int .i64 at_), (.int .i64 b_)] B w [blk mb (.cells [(.pointer (some ⟨vb, 0, none⟩)), (.int .i64 gw), (.int .i64 gi), (.int .i64 gb), (.int .i64 n_)].toArray 85 (0, 0)), viewA (ptr vb) img l] (fun v H' => v = (.int .i64 r.1) ∧ H' = [blk mb (.cells [(.pointer (some ⟨vb, 0, none⟩)), (.int .i64 gw), (.int .i64 gi), (.int .i64 gb), (.int .i64 n_)].toArray 85 (0, 0)), viewA (ptr vb) img r.2]) := by
 refine spec_W Tryd.func49 rfl fun l0 hs => ?_
 unfold bgive_M at hm
 refine W.sr fun K1 hK1 => ?_
 refine zE 1 (hK1 _ _ ?_)
 refine W.seq fun K2 hK2 => ?_
 have hs3 := hs.drew
 refine W.regionD [(0, 0), (1, 1), (2, 2), (4, 4), (0, 0), (16, 16), (32, 32), (64, 64), (136, 136), (256, 256), (512, 512), (512, 512), (2047, 1024), (8191, 2048)] (fun w_ => St B w l0 w_ [blk mb (.cells [(.pointer (some ⟨vb, 0, none⟩)), (.int .i64 gw), (.int .i64 gi), (.int .i64 gb), (.int .i64 n_)].toArray 85 (0, 0)), viewA (ptr vb) img l]) (by kernel_rfl) hs3 ?_
 refine any_val (v := (.pointer (some ⟨mb, 0, none⟩))) (v' := (.pointer (some ⟨mb, 0, none⟩))) 0 (by kernel_rfl) (fun _ => by kernel_rfl) rfl hs3 ?_
 refine any_val (v := (.pointer (some ⟨mb, 0, none⟩))) (v' := (.pointer (some ⟨mb, 0, none⟩))) 1 (by kernel_rfl) (fun _ => by kernel_rfl) rfl hs3 ?_
 refine any_val (v := (.pointer (some ⟨mb, 0, none⟩))) (v' := (.pointer (some ⟨mb, 0, none⟩))) 2 (by kernel_rfl) (fun _ => by kernel_rfl) rfl hs3 ?_
 refine any_R 3 (by kernel_rfl) (fun _ hS_ => runs_load (ad := ⟨mb, 0, none⟩) (v := (.pointer (some ⟨vb, 0, none⟩))) (by kernel_rfl) (hS_.cellAt 0 rfl rfl)) hs3 ?_
 refine any_val (v := (.pointer (some ⟨mb, 0, none⟩))) (v' := (.pointer (some ⟨mb, 0, none⟩))) 4 (by kernel_rfl) (fun _ => by kernel_rfl) rfl hs3 ?_
 refine any_val (v := (.pointer (some ⟨mb, 0, none⟩))) (v' := (.pointer (some ⟨mb, 0, none⟩))) 5 (by kernel_rfl) (fun _ => by kernel_rfl) rfl hs3 ?_
 refine any_val (v := (.pointer (some ⟨mb, 1, none⟩))) (v' := (.pointer (some ⟨mb, 1, none⟩))) 6 (by kernel_rfl) (fun _ => by kernel_rfl) rfl hs3 ?_
 refine any_R 7 (by kernel_rfl) (fun _ hS_ => runs_loadAgg (ad := ⟨mb, 1, none⟩) (cs := [(.int .i64 gw), (.int .i64 gi), (.int .i64 gb)]) (by kernel_rfl) (cells_sub (hS_.heapAt 0 rfl) rfl)) hs3 ?_
 refine any_step 8 (by kernel_rfl) (by kernel_rfl) ?_
 obtain ⟨h4, hm⟩ := need_some hm
 rcases Bool.eq_false_or_eq_true (decide (May gw gi gb ∧ wordsOf gw gi gb ≤ (img.length : Int))) with h5 | h5
 ·
  obtain ⟨h5p, hm⟩ := iY hm h5
  refine ops_call0 hs3 (by kernel_rfl) (anew_ok (gw := gw) (gi := gi) (gb := gb) (hv := (hs3.entAt 1 rfl viewA_at)) (hz := h4) (hP := h5p) B _) ?_
  rintro _ _ w9 ⟨b6, b7, b8, rfl, rfl⟩ hs10
  have hs11 := St.ap3 hs10
  have hs12 := St.f4 hs11
  have hs13 := St.f4 hs12
  have hs14 := St.tk2 hs13
  refine ops_done (by kernel_rfl) ⟨hs14, ?_⟩
  refine any_val (v := (.tuple #[(.pointer (some ⟨b6, 0, none⟩)), (.int .i64 0)])) (v' := (.tuple #[(.pointer (some ⟨b6, 0, none⟩)), (.int .i64 0)])) 9 (by kernel_rfl) (fun _ => by kernel_rfl) rfl hs14 ?_
  refine any_val (v := (.pointer (some ⟨b6, 0, none⟩))) (v' := (.pointer (some ⟨b6, 0, none⟩))) 10 (by kernel_rfl) (fun _ => by kernel_rfl) rfl hs14 ?_
  refine any_val (v := (.int .i64 0)) (v' := (.int .i64 0)) 11 (by kernel_rfl) (fun _ => by kernel_rfl) rfl hs14 ?_
  refine any_val (v := (.pointer (some ⟨b6, 0, none⟩))) (v' := (.pointer (some ⟨b6, 0, none⟩))) 12 (by kernel_rfl) (fun _ => by kernel_rfl) rfl hs14 ?_
  refine any_val (v := (.int .i64 0)) (v' := (.int .i64 0)) 13 (by kernel_rfl) (fun _ => by kernel_rfl) rfl hs14 ?_
  refine any_done (by kernel_rfl) ?_
  refine hK2 _ _ ?_
  refine W.seq fun K15 hK15 => ?_
  refine W.sr fun K16 hK16 => ?_
  refine zE 2 (hK16 _ _ ?_)
  refine W.cond_true true (by kernel_rfl) rfl ?_
  refine W.region ?_
  refine zR 2 ?_
  obtain ⟨r17, h18, hm⟩ := bind_some hm
  have hs19 := St.f4 hs11
  have hs20 := St.f3 hs19
  have hs21 := St.f3 hs20
  have hs22 := St.f3 hs21
  refine ops_call4 hs22 (by kernel_rfl) (agiveb_walk (ab := b6) (ib := b7) (bb := b8) (vb := vb) (img := img) (l := l) (gw := gw) (gi := gi) (gb := gb) (ia := (placeOf 6 gw gi gb 0)) (ba := (placeOf 7 gw gi gb 0)) (n_ := b_) (hm := h18) B _) ?_
  rintro _ _ w23 ⟨rfl, rfl⟩ hs24
  have hs25 := St.ap4 hs24
  refine zE 1 (hK15 _ _ ?_)
  refine W.seq fun K26 hK26 => ?_
  refine W.sr fun K27 hK27 => ?_
  refine zE 2 (hK27 _ _ ?_)
  refine W.cond (decide (r17.1 = 0)) (by kernel_rfl) (fun h28 => ?_) (fun h28 => ?_)
  ·
   obtain ⟨h28p, hm⟩ := iY hm h28
   refine W.region ?_
   refine zR 3 ?_
   refine zL ⟨mb, 0, none⟩ (.pointer (some ⟨vb, 0, none⟩)) (hs25.cellAt 4 rfl rfl) ?_
   refine zR 1 ?_
   have hs29 := St.f3 hs25
   refine zC11 hs29 (sset_spec (b := vb) (img := img) (l := r17.2) (at_ := at_) (x_ := 0) B _) fun w30 hs32 => ?_
   refine zR 1 ?_
   obtain ⟨r33, h34, hm⟩ := bind_some hm
   replace h34 := some_inj h34
   refine ops_set 8 (v := .int .i64 r33) (Eq.trans (by kernel_rfl) (congrArg (Value.int .i64) h34)) ?_
   refine zD (hK26 _ _ ?_)
   refine W.sr fun K35 hK35 => ?_
   refine zE 2 (hK35 _ _ ?_)
   refine W.ret ?_
   obtain rfl := some_inj hm
   have hs36 := St.f4 hs32
   have hs37 := St.tk2 hs36
   refine ret_of (.int .i64 r33) (by kernel_rfl) ⟨_, ⟨rfl, rfl⟩, hs37⟩
  ·
   obtain ⟨h28p, hm⟩ := iN hm h28
   refine W.skip ?_
   refine hK26 _ _ ?_
   refine W.sr fun K38 hK38 => ?_
   refine zE 2 (hK38 _ _ ?_)
   refine W.ret ?_
   obtain rfl := some_inj hm
   have hs39 := St.f3 hs25
   have hs40 := St.f4 hs39
   have hs41 := St.tk2 hs40
   refine ret_of (.int .i64 r17.1) (by kernel_rfl) ⟨_, ⟨rfl, rfl⟩, hs41⟩
 ·
  obtain ⟨h5p, hm⟩ := iN hm h5
  refine zC00 hs3 (anew_err (gw := gw) (gi := gi) (gb := gb) (hv := (hs3.entAt 1 rfl viewA_at)) (hz := h4) (hN := h5p) B _) fun w42 hs44 => ?_
  refine ops_done (by kernel_rfl) ⟨hs44, ?_⟩
  refine any_val (v := (.tuple #[(.pointer none), (.int .i64 (if May gw gi gb then (8 : Int) else 1))])) (v' := (.tuple #[(.pointer none), (.int .i64 (if May gw gi gb then (8 : Int) else 1))])) 9 (by kernel_rfl) (fun _ => by kernel_rfl) rfl hs44 ?_
  refine any_val (v := (.pointer none)) (v' := (.pointer none)) 10 (by kernel_rfl) (fun _ => by kernel_rfl) rfl hs44 ?_
  refine any_val (v := (.int .i64 (if May gw gi gb then (8 : Int) else 1))) (v' := (.int .i64 (if May gw gi gb then (8 : Int) else 1))) 11 (by kernel_rfl) (fun _ => by kernel_rfl) rfl hs44 ?_
  refine any_val (v := (.pointer none)) (v' := (.pointer none)) 12 (by kernel_rfl) (fun _ => by kernel_rfl) rfl hs44 ?_
  refine any_val (v := (.int .i64 (if May gw gi gb then (8 : Int) else 1))) (v' := (.int .i64 (if May gw gi gb then (8 : Int) else 1))) 13 (by kernel_rfl) (fun _ => by kernel_rfl) rfl hs44 ?_
  refine any_done (by kernel_rfl) ?_
  refine hK2 _ _ ?_
  refine W.seq_join (fun s_ w_ => ∃ (p45 : Int), (∃ us, s_ = slots 35 [(0, (.pointer (some ⟨mb, 0, none⟩))), (1, (.int .i64 at_)), (8, (.int .i64 p45))] us) ∧ St B w l0 w_ [viewA (ptr vb) img l, blk mb (.cells [(.pointer (some ⟨vb, 0, none⟩)), (.int .i64 gw), (.int .i64 gi), (.int .i64 gb), (.int .i64 n_)].toArray 85 (0, 0))] ∧ bgive_J1 img l at_ p45 = some r) ?_ ?_
  ·
   rintro _ w46 ⟨p45, ⟨us, rfl⟩, hs47, hm⟩
   unfold bgive_J1 at hm
   refine W.seq fun K48 hK48 => ?_
   refine W.sr fun K49 hK49 => ?_
   refine zE 2 (hK49 _ _ ?_)
   refine W.cond (decide (p45 = 0)) (by kernel_rfl) (fun h50 => ?_) (fun h50 => ?_)
   ·
    obtain ⟨h50p, hm⟩ := iY hm h50
    refine W.region ?_
    refine zR 3 ?_
    refine zL ⟨mb, 0, none⟩ (.pointer (some ⟨vb, 0, none⟩)) (hs47.cellAt 1 rfl rfl) ?_
    refine zR 1 ?_
    refine zC11 hs47 (sset_spec (b := vb) (img := img) (l := l) (at_ := at_) (x_ := 0) B _) fun w51 hs53 => ?_
    refine zE 1 (hK48 _ _ ?_)
    refine W.sr fun K54 hK54 => ?_
    refine zE 2 (hK54 _ _ ?_)
    refine W.ret ?_
    obtain rfl := some_inj hm
    have hs55 := St.f1 hs53
    refine ret_of (.int .i64 ((vwrite img l at_ 0).1)) (by kernel_rfl) ⟨_, ⟨rfl, rfl⟩, hs55⟩
   ·
    obtain ⟨h50p, hm⟩ := iN hm h50
    refine W.skip ?_
    refine hK48 _ _ ?_
    refine W.sr fun K56 hK56 => ?_
    refine zE 2 (hK56 _ _ ?_)
    refine W.ret ?_
    obtain rfl := some_inj hm
    have hs57 := St.f1 hs47
    refine ret_of (.int .i64 p45) (by kernel_rfl) ⟨_, ⟨rfl, rfl⟩, hs57⟩
  ·
   refine W.sr fun K58 hK58 => ?_
   refine zE 2 (hK58 _ _ ?_)
   refine W.cond (decide ((if May gw gi gb then (8 : Int) else 1) = 0)) (by kernel_rfl) (fun h59 => ?_) (fun h59 => ?_)
   ·
    obtain ⟨h59p, hm⟩ := iY hm h59
    refine W.region ?_
    refine zR 2 ?_
    refine zC00 hs44 (agiveb_nil (n_ := b_) B _) fun w60 hs62 => ?_
    refine zE 1 ?_
    have hs63 := St.f1 hs62
    exact ⟨2, slots_intro _ (by kernel_rfl), hs63, hm⟩
   ·
    obtain ⟨h59p, hm⟩ := iN hm h59
    refine W.skip ?_
    have hs64 := St.f1 hs44
    exact ⟨(if May gw gi gb then (8 : Int) else 1), slots_intro _ (by kernel_rfl), hs64, hm⟩

end Go.Proofs.YtmmclabkkigiaaaDoor

set_option linter.unusedVariables false
set_option maxRecDepth 20000
set_option maxHeartbeats 4000000
namespace Go.Proofs.YtmmclabkkigiaaaDoor
open Go Go.RowKit
set_option linter.unusedSimpArgs false
set_option linter.unusedVariables false

def bTake_J2 (img : List Int) (gw : Int) (gi : Int) (gb : Int) (l55 : List (Int × Int)) (p56 : Int) : Option (Int × Int × List (Int × Int)) :=
 (btake_M img l55 gw gi gb p56).bind fun r60 =>
some (r60.1, r60.2.1, r60.2.2)

def bTake_J3 (img : List Int) (gw : Int) (gi : Int) (gb : Int) (l131 : List (Int × Int)) (p132 : Int) : Option (Int × Int × List (Int × Int)) :=
 (btake_M img l131 gw gi gb p132).bind fun r136 =>
some (r136.1, r136.2.1, r136.2.2)

def bTake_J1 (img : List Int) (l : List (Int × Int)) (gw : Int) (gi : Int) (gb : Int) (n_ : Int) (k_ : Int) (r3 : Int × Int) (p9 : Bool) : Option (Int × Int × List (Int × Int)) :=
 if p9 = true then (some (r3.1, r3.2, l)) else (need ((img.length : Int) ≤ 1000000000000) <|
if May gw gi gb ∧ wordsOf gw gi gb ≤ (img.length : Int) then ((afree_M img l gi gb (placeOf 6 gw gi gb 0) (placeOf 7 gw gi gb 0)).bind fun r33 =>
(bneed_M img l gw gi gb n_ k_).bind fun r39 =>
if r33.2 < r39 then (some (0, 7, l)) else ((bword_M img l gw gi gb n_ k_).bind fun r50 =>
if r50.2 = true then (bTake_J2 img gw gi gb l r50.1) else ((bown_M gw gi gb n_ 8).bind fun r77 =>
(btake_M img l gw gi gb r77).bind fun r82 =>
if r82.2.1 = 0 then ((bword_M img r82.2.2 gw gi gb n_ k_).bind fun r91 =>
bTake_J2 img gw gi gb r82.2.2 r91.1) else (some (0, r82.2.1, r82.2.2))))) else (if (if May gw gi gb then (8 : Int) else 1) = 0 then ((bneed_M img l gw gi gb n_ k_).bind fun r117 =>
if 0 < r117 then (some (0, 7, l)) else ((bword_M img l gw gi gb n_ k_).bind fun r126 =>
if r126.2 = true then (bTake_J3 img gw gi gb l r126.1) else ((bown_M gw gi gb n_ 8).bind fun r146 =>
(btake_M img l gw gi gb r146).bind fun r151 =>
if r151.2.1 = 0 then ((bword_M img r151.2.2 gw gi gb n_ k_).bind fun r159 =>
bTake_J3 img gw gi gb r151.2.2 r159.1) else (some (0, r151.2.1, r151.2.2))))) else ((some (if May gw gi gb then (8 : Int) else 1)).bind fun r167 =>
some (0, r167, l))))

def bTake_M (img : List Int) (l : List (Int × Int)) (gw : Int) (gi : Int) (gb : Int) (n_ : Int) (k_ : Int) : Option (Int × Int × List (Int × Int)) :=
 (bat_M img l gw gi gb n_ k_).bind fun r3 =>
if r3.2 = 0 then (bTake_J1 img l gw gi gb n_ k_ r3 (!decide (r3.1 = 0))) else (bTake_J1 img l gw gi gb n_ k_ r3 true)

theorem bTake_walk {img : List Int} {l : List (Int × Int)} {gw : Int} {gi : Int} {gb : Int} {n_ : Int} {k_ : Int} {mb vb : Nat} {r : Int × Int × List (Int × Int)} (B : Nat) (w : World) (hG : 0 < B) (hT : CellsAt (some ⟨0, 0, none⟩) tab8 w) (hm : bTake_M img l gw gi gb n_ k_ = some r) : Spec Tryd.prog 13 #[(.pointer (some ⟨mb, 0, none⟩)), (.int .i64 k_)] B w [blk mb (.cells [(.pointer (some ⟨vb, 0, none⟩)), (.int .i64 gw), (.int .i64 gi), (.int .i64 gb), (.int .i64 n_)].toArray 85 (0, 0)), viewA (ptr vb) img l] (fun v H' => v = (.tuple #[(.int .i64 r.1), (.int .i64 r.2.1)]) ∧ H' = [blk mb (.cells [(.pointer (some ⟨vb, 0, none⟩)), (.int .i64 gw), (.int .i64 gi), (.int .i64 gb), (.int .i64 n_)].toArray 85 (0, 0)), viewA (ptr vb) img r.2.2]) := by
 refine spec_W Tryd.func13 rfl fun l0 hs => ?_
 unfold bTake_M at hm
 refine W.sr fun K1 hK1 => ?_
 refine zE 2 (hK1 _ _ ?_)
 refine W.sr fun K2 hK2 => ?_
 refine zR 2 ?_
 obtain ⟨r3, h4, hm⟩ := bind_some hm
 refine zC00 hs (bat_walk (k_ := k_) (img := img) (l := l) (gw := gw) (gi := gi) (gb := gb) (n_ := n_) (hmb := (hs.heapAt 0 rfl)) (hv := (hs.entAt 1 rfl viewA_at)) (hm := h4) B _) fun w5 hs7 => ?_
 refine zE 5 (hK2 _ _ ?_)
 refine W.seq fun K8 hK8 => ?_
 refine W.seq_join (fun s_ w_ => ∃ (p9 : Bool), (∃ us, s_ = slots 83 [(0, (.pointer (some ⟨mb, 0, none⟩))), (1, (.int .i64 k_)), (6, (.int .i64 r3.1)), (7, (.int .i64 r3.2)), (26, (.bool p9))] us) ∧ St B w l0 w_ [viewA (ptr vb) img l, blk mb (.cells [(.pointer (some ⟨vb, 0, none⟩)), (.int .i64 gw), (.int .i64 gi), (.int .i64 gb), (.int .i64 n_)].toArray 85 (0, 0))] ∧ bTake_J1 img l gw gi gb n_ k_ r3 p9 = some r) ?_ ?_
 ·
  rintro _ w10 ⟨p9, ⟨us, rfl⟩, hs11, hm⟩
  unfold bTake_J1 at hm
  refine W.cond p9 (by kernel_rfl) (fun h12 => ?_) (fun h12 => ?_)
  ·
   have h12p : p9 = true := h12
   replace hm := ite_yes hm h12p
   refine W.sr fun K13 hK13 => ?_
   refine zE 4 (hK13 _ _ ?_)
   refine W.ret (ret_seq ?_)
   obtain rfl := some_inj hm
   have hs14 := St.f1 hs11
   refine ret_of (.tuple #[(.int .i64 r3.1), (.int .i64 r3.2)]) (by kernel_rfl) ⟨_, ⟨rfl, rfl⟩, hs14⟩
  ·
   have h12p : ¬ (p9 = true) := ne_true_of_eq_false h12
   replace hm := ite_no hm h12p
   refine W.skip ?_
   refine hK8 _ _ ?_
   refine W.seq fun K16 hK16 => ?_
   have hs17 := hs11.drew
   refine W.regionD [(0, 0), (1, 1), (2, 2), (4, 4), (0, 0), (16, 16), (32, 32), (64, 64), (136, 136), (256, 256), (512, 512), (512, 512), (2047, 1024), (8191, 2048)] (fun w_ => St B w l0 w_ [viewA (ptr vb) img l, blk mb (.cells [(.pointer (some ⟨vb, 0, none⟩)), (.int .i64 gw), (.int .i64 gi), (.int .i64 gb), (.int .i64 n_)].toArray 85 (0, 0))]) (by kernel_rfl) hs17 ?_
   refine any_val (v := (.pointer (some ⟨mb, 0, none⟩))) (v' := (.pointer (some ⟨mb, 0, none⟩))) 0 (by kernel_rfl) (fun _ => by kernel_rfl) rfl hs17 ?_
   refine any_val (v := (.pointer (some ⟨mb, 0, none⟩))) (v' := (.pointer (some ⟨mb, 0, none⟩))) 1 (by kernel_rfl) (fun _ => by kernel_rfl) rfl hs17 ?_
   refine any_val (v := (.pointer (some ⟨mb, 0, none⟩))) (v' := (.pointer (some ⟨mb, 0, none⟩))) 2 (by kernel_rfl) (fun _ => by kernel_rfl) rfl hs17 ?_
   refine any_R 3 (by kernel_rfl) (fun _ hS_ => runs_load (ad := ⟨mb, 0, none⟩) (v := (.pointer (some ⟨vb, 0, none⟩))) (by kernel_rfl) (hS_.cellAt 1 rfl rfl)) hs17 ?_
   refine any_val (v := (.pointer (some ⟨mb, 0, none⟩))) (v' := (.pointer (some ⟨mb, 0, none⟩))) 4 (by kernel_rfl) (fun _ => by kernel_rfl) rfl hs17 ?_
   refine any_val (v := (.pointer (some ⟨mb, 0, none⟩))) (v' := (.pointer (some ⟨mb, 0, none⟩))) 5 (by kernel_rfl) (fun _ => by kernel_rfl) rfl hs17 ?_
   refine any_val (v := (.pointer (some ⟨mb, 1, none⟩))) (v' := (.pointer (some ⟨mb, 1, none⟩))) 6 (by kernel_rfl) (fun _ => by kernel_rfl) rfl hs17 ?_
   refine any_R 7 (by kernel_rfl) (fun _ hS_ => runs_loadAgg (ad := ⟨mb, 1, none⟩) (cs := [(.int .i64 gw), (.int .i64 gi), (.int .i64 gb)]) (by kernel_rfl) (cells_sub (hS_.heapAt 1 rfl) rfl)) hs17 ?_
   refine any_step 8 (by kernel_rfl) (by kernel_rfl) ?_
   obtain ⟨h18, hm⟩ := need_some hm
   rcases Bool.eq_false_or_eq_true (decide (May gw gi gb ∧ wordsOf gw gi gb ≤ (img.length : Int))) with h19 | h19
   ·
    obtain ⟨h19p, hm⟩ := iY hm h19
    refine ops_call0 hs17 (by kernel_rfl) (anew_ok (gw := gw) (gi := gi) (gb := gb) (hv := (hs17.entAt 0 rfl viewA_at)) (hz := h18) (hP := h19p) B _) ?_
    rintro _ _ w23 ⟨b20, b21, b22, rfl, rfl⟩ hs24
    have hs25 := St.ap3 hs24
    have hs26 := St.f4 hs25
    have hs27 := St.f4 hs26
    have hs28 := St.tk2 hs27
    refine ops_done (by kernel_rfl) ⟨hs28, ?_⟩
    refine any_val (v := (.tuple #[(.pointer (some ⟨b20, 0, none⟩)), (.int .i64 0)])) (v' := (.tuple #[(.pointer (some ⟨b20, 0, none⟩)), (.int .i64 0)])) 9 (by kernel_rfl) (fun _ => by kernel_rfl) rfl hs28 ?_
    refine any_val (v := (.pointer (some ⟨b20, 0, none⟩))) (v' := (.pointer (some ⟨b20, 0, none⟩))) 10 (by kernel_rfl) (fun _ => by kernel_rfl) rfl hs28 ?_
    refine any_val (v := (.int .i64 0)) (v' := (.int .i64 0)) 11 (by kernel_rfl) (fun _ => by kernel_rfl) rfl hs28 ?_
    refine any_val (v := (.pointer (some ⟨b20, 0, none⟩))) (v' := (.pointer (some ⟨b20, 0, none⟩))) 12 (by kernel_rfl) (fun _ => by kernel_rfl) rfl hs28 ?_
    refine any_val (v := (.int .i64 0)) (v' := (.int .i64 0)) 13 (by kernel_rfl) (fun _ => by kernel_rfl) rfl hs28 ?_
    refine any_done (by kernel_rfl) ?_
    refine hK16 _ _ ?_
    refine W.seq fun K29 hK29 => ?_
    refine W.sr fun K30 hK30 => ?_
    refine zE 2 (hK30 _ _ ?_)
    refine W.cond_false false (by kernel_rfl) rfl ?_
    refine W.skip ?_
    refine hK29 _ _ ?_
    refine W.seq fun K31 hK31 => ?_
    refine W.sr fun K32 hK32 => ?_
    refine zR 1 ?_
    obtain ⟨r33, h34, hm⟩ := bind_some hm
    refine zC00 hs25 (afree_walk (hab := (hs25.heapAt 0 rfl)) (hib := (hs25.heapAt 1 rfl)) (hbb := (hs25.heapAt 2 rfl)) (hv := (hs25.entAt 3 rfl viewA_at)) (hm := h34) B _) fun w35 hs37 => ?_
    refine zE 5 (hK32 _ _ ?_)
    refine W.sr fun K38 hK38 => ?_
    refine zR 3 ?_
    obtain ⟨r39, h40, hm⟩ := bind_some hm
    refine zC00 hs37 (bneed_walk (k_ := k_) (img := img) (l := l) (gw := gw) (gi := gi) (gb := gb) (n_ := n_) (hmb := (hs37.heapAt 4 rfl)) (hv := (hs37.entAt 3 rfl viewA_at)) (hm := h40) B _) fun w41 hs43 => ?_
    refine zE 1 (hK38 _ _ ?_)
    refine W.cond (decide (r33.2 < r39)) (by kernel_rfl) (fun h44 => ?_) (fun h44 => ?_)
    ·
     obtain ⟨h44p, hm⟩ := iY hm h44
     refine W.sr fun K45 hK45 => ?_
     refine zE 2 (hK45 _ _ ?_)
     refine W.ret (ret_seq ?_)
     obtain rfl := some_inj hm
     have hs46 := St.f3 hs43
     have hs47 := St.f4 hs46
     have hs48 := St.tk2 hs47
     refine ret_of (.tuple #[(.int .i64 0), (.int .i64 7)]) (by kernel_rfl) ⟨_, ⟨rfl, rfl⟩, hs48⟩
    ·
     obtain ⟨h44p, hm⟩ := iN hm h44
     refine W.skip ?_
     refine hK31 _ _ ?_
     refine W.sr fun K49 hK49 => ?_
     refine zR 2 ?_
     obtain ⟨r50, h51, hm⟩ := bind_some hm
     refine zC00 hs43 (bword_walk (k_ := k_) (img := img) (l := l) (gw := gw) (gi := gi) (gb := gb) (n_ := n_) (hmb := (hs43.heapAt 4 rfl)) (hv := (hs43.entAt 3 rfl viewA_at)) (hm := h51) B _) fun w52 hs54 => ?_
     refine zE 5 (hK49 _ _ ?_)
     refine W.seq_join (fun s_ w_ => ∃ (l55 : List (Int × Int)) (p56 : Int), (∃ us, s_ = slots 83 [(0, (.pointer (some ⟨mb, 0, none⟩))), (11, (.int .i64 p56))] us) ∧ St B w l0 w_ [viewA (ptr vb) img l55, blk mb (.cells [(.pointer (some ⟨vb, 0, none⟩)), (.int .i64 gw), (.int .i64 gi), (.int .i64 gb), (.int .i64 n_)].toArray 85 (0, 0)), blk b21 (.cells [(.pointer (some ⟨vb, 0, none⟩)), (.int .i64 (placeOf 6 gw gi gb 0)), (.int .i64 gi)].toArray 136 (0, 0)), blk b22 (.cells [(.pointer (some ⟨vb, 0, none⟩)), (.int .i64 (placeOf 7 gw gi gb 0)), (.int .i64 gb)].toArray 136 (0, 0)), blk b20 (.cells [(.pointer (some ⟨vb, 0, none⟩)), (.int .i64 gw), (.int .i64 gi), (.int .i64 gb), (.pointer (some ⟨b21, 0, none⟩)), (.int .i64 gi), (.pointer (some ⟨b22, 0, none⟩)), (.int .i64 gb)].toArray 114 (0, 0))] ∧ bTake_J2 img gw gi gb l55 p56 = some r) ?_ ?_
     ·
      rintro _ w57 ⟨l55, p56, ⟨us, rfl⟩, hs58, hm⟩
      unfold bTake_J2 at hm
      refine W.sr fun K59 hK59 => ?_
      refine zR 2 ?_
      obtain ⟨r60, h61, hm⟩ := bind_some hm
      have hs62 := St.f1 hs58
      refine zC22 hs62 (btake_walk (mb := mb) (vb := vb) (at_ := p56) (img := img) (l := l55) (gw := gw) (gi := gi) (gb := gb) (n_ := n_) (hG := hG) (hT := (hs58.oldCellsB hG hT)) (hm := h61) B _) fun w63 hs65 => ?_
      refine zE 4 (hK59 _ _ ?_)
      refine W.ret ?_
      obtain rfl := some_inj hm
      have hs66 := St.f1 hs65
      have hs67 := St.f1 hs66
      have hs68 := St.tk2 hs67
      refine ret_of (.tuple #[(.int .i64 r60.1), (.int .i64 r60.2.1)]) (by kernel_rfl) ⟨_, ⟨rfl, rfl⟩, hs68⟩
     ·
      refine W.sr fun K69 hK69 => ?_
      refine zE 2 (hK69 _ _ ?_)
      refine W.cond (!r50.2) (by kernel_rfl) (fun h70 => ?_) (fun h70 => ?_)
      rotate_left
      ·
       have h70p : r50.2 = true := (bnot_false h70)
       replace hm := ite_yes hm h70p
       refine W.skip ?_
       have hs71 := St.f2 hs54
       have hs72 := St.f2 hs71
       have hs73 := St.f4 hs72
       have hs74 := St.f4 hs73
       exact ⟨l, r50.1, slots_intro _ (by kernel_rfl), hs74, hm⟩
      ·
       have h70p : ¬ (r50.2 = true) := ne_true_of_eq_false (bnot_true h70)
       replace hm := ite_no hm h70p
       refine W.seq fun K75 hK75 => ?_
       refine W.sr fun K76 hK76 => ?_
       refine zR 2 ?_
       obtain ⟨r77, h78, hm⟩ := bind_some hm
       refine zC00 hs54 (bown_walk (w_ := 8) (img := img) (l := l) (gw := gw) (gi := gi) (gb := gb) (n_ := n_) (hmb := (hs54.heapAt 4 rfl)) (hv := (hs54.entAt 3 rfl viewA_at)) (hm := h78) B _) fun w79 hs81 => ?_
       obtain ⟨r82, h83, hm⟩ := bind_some hm
       have hs84 := St.f3 hs81
       have hs85 := St.f4 hs84
       refine zC22 hs85 (btake_walk (mb := mb) (vb := vb) (at_ := r77) (img := img) (l := l) (gw := gw) (gi := gi) (gb := gb) (n_ := n_) (hG := hG) (hT := (hs81.oldCellsB hG hT)) (hm := h83) B _) fun w86 hs88 => ?_
       refine zE 5 (hK76 _ _ ?_)
       refine W.sr fun K89 hK89 => ?_
       refine zE 2 (hK89 _ _ ?_)
       refine W.cond (!decide (r82.2.1 = 0)) (by kernel_rfl) (fun h90 => ?_) (fun h90 => ?_)
       rotate_left
       ·
        have h90p : r82.2.1 = 0 := of_decide_eq_true (bnot_false h90)
        replace hm := ite_yes hm h90p
        refine W.skip ?_
        refine hK75 _ _ ?_
        refine W.region ?_
        refine zR 2 ?_
        obtain ⟨r91, h92, hm⟩ := bind_some hm
        refine zC00 hs88 (bword_walk (k_ := k_) (img := img) (l := r82.2.2) (gw := gw) (gi := gi) (gb := gb) (n_ := n_) (hmb := (hs88.heapAt 0 rfl)) (hv := (hs88.entAt 1 rfl viewA_at)) (hm := h92) B _) fun w93 hs95 => ?_
        refine zE 4 ?_
        have hs96 := St.f2 hs95
        have hs97 := St.f4 hs96
        have hs98 := St.f4 hs97
        have hs99 := St.f3 hs98
        have hs100 := St.f4 hs99
        exact ⟨r82.2.2, r91.1, slots_intro _ (by kernel_rfl), hs100, hm⟩
       ·
        have h90p : ¬ (r82.2.1 = 0) := of_decide_eq_false (bnot_true h90)
        replace hm := ite_no hm h90p
        refine W.sr fun K101 hK101 => ?_
        refine zE 3 (hK101 _ _ ?_)
        refine W.ret (ret_seq (ret_seq ?_))
        obtain rfl := some_inj hm
        have hs102 := St.f1 hs88
        have hs103 := St.f1 hs102
        have hs104 := St.tk2 hs103
        refine ret_of (.tuple #[(.int .i64 0), (.int .i64 r82.2.1)]) (by kernel_rfl) ⟨_, ⟨rfl, rfl⟩, hs104⟩
   ·
    obtain ⟨h19p, hm⟩ := iN hm h19
    refine zC00 hs17 (anew_err (gw := gw) (gi := gi) (gb := gb) (hv := (hs17.entAt 0 rfl viewA_at)) (hz := h18) (hN := h19p) B _) fun w105 hs107 => ?_
    refine ops_done (by kernel_rfl) ⟨hs107, ?_⟩
    refine any_val (v := (.tuple #[(.pointer none), (.int .i64 (if May gw gi gb then (8 : Int) else 1))])) (v' := (.tuple #[(.pointer none), (.int .i64 (if May gw gi gb then (8 : Int) else 1))])) 9 (by kernel_rfl) (fun _ => by kernel_rfl) rfl hs107 ?_
    refine any_val (v := (.pointer none)) (v' := (.pointer none)) 10 (by kernel_rfl) (fun _ => by kernel_rfl) rfl hs107 ?_
    refine any_val (v := (.int .i64 (if May gw gi gb then (8 : Int) else 1))) (v' := (.int .i64 (if May gw gi gb then (8 : Int) else 1))) 11 (by kernel_rfl) (fun _ => by kernel_rfl) rfl hs107 ?_
    refine any_val (v := (.pointer none)) (v' := (.pointer none)) 12 (by kernel_rfl) (fun _ => by kernel_rfl) rfl hs107 ?_
    refine any_val (v := (.int .i64 (if May gw gi gb then (8 : Int) else 1))) (v' := (.int .i64 (if May gw gi gb then (8 : Int) else 1))) 13 (by kernel_rfl) (fun _ => by kernel_rfl) rfl hs107 ?_
    refine any_done (by kernel_rfl) ?_
    refine hK16 _ _ ?_
    refine W.seq fun K108 hK108 => ?_
    refine W.sr fun K109 hK109 => ?_
    refine zE 2 (hK109 _ _ ?_)
    refine W.cond (!decide ((if May gw gi gb then (8 : Int) else 1) = 0)) (by kernel_rfl) (fun h110 => ?_) (fun h110 => ?_)
    rotate_left
    ·
     have h110p : (if May gw gi gb then (8 : Int) else 1) = 0 := of_decide_eq_true (bnot_false h110)
     replace hm := ite_yes hm h110p
     refine W.skip ?_
     refine hK108 _ _ ?_
     refine W.seq fun K111 hK111 => ?_
     refine W.sr fun K112 hK112 => ?_
     refine zR 1 ?_
     refine zC00 hs107 (afree_nil B _) fun w113 hs115 => ?_
     refine zE 5 (hK112 _ _ ?_)
     refine W.sr fun K116 hK116 => ?_
     refine zR 3 ?_
     obtain ⟨r117, h118, hm⟩ := bind_some hm
     refine zC00 hs115 (bneed_walk (k_ := k_) (img := img) (l := l) (gw := gw) (gi := gi) (gb := gb) (n_ := n_) (hmb := (hs115.heapAt 1 rfl)) (hv := (hs115.entAt 0 rfl viewA_at)) (hm := h118) B _) fun w119 hs121 => ?_
     refine zE 1 (hK116 _ _ ?_)
     refine W.cond (decide (0 < r117)) (by kernel_rfl) (fun h122 => ?_) (fun h122 => ?_)
     ·
      obtain ⟨h122p, hm⟩ := iY hm h122
      refine W.sr fun K123 hK123 => ?_
      refine zE 2 (hK123 _ _ ?_)
      refine W.ret (ret_seq ?_)
      obtain rfl := some_inj hm
      have hs124 := St.f1 hs121
      refine ret_of (.tuple #[(.int .i64 0), (.int .i64 7)]) (by kernel_rfl) ⟨_, ⟨rfl, rfl⟩, hs124⟩
     ·
      obtain ⟨h122p, hm⟩ := iN hm h122
      refine W.skip ?_
      refine hK111 _ _ ?_
      refine W.sr fun K125 hK125 => ?_
      refine zR 2 ?_
      obtain ⟨r126, h127, hm⟩ := bind_some hm
      refine zC00 hs121 (bword_walk (k_ := k_) (img := img) (l := l) (gw := gw) (gi := gi) (gb := gb) (n_ := n_) (hmb := (hs121.heapAt 1 rfl)) (hv := (hs121.entAt 0 rfl viewA_at)) (hm := h127) B _) fun w128 hs130 => ?_
      refine zE 5 (hK125 _ _ ?_)
      refine W.seq_join (fun s_ w_ => ∃ (l131 : List (Int × Int)) (p132 : Int), (∃ us, s_ = slots 83 [(0, (.pointer (some ⟨mb, 0, none⟩))), (11, (.int .i64 p132))] us) ∧ St B w l0 w_ [viewA (ptr vb) img l131, blk mb (.cells [(.pointer (some ⟨vb, 0, none⟩)), (.int .i64 gw), (.int .i64 gi), (.int .i64 gb), (.int .i64 n_)].toArray 85 (0, 0))] ∧ bTake_J3 img gw gi gb l131 p132 = some r) ?_ ?_
      ·
       rintro _ w133 ⟨l131, p132, ⟨us, rfl⟩, hs134, hm⟩
       unfold bTake_J3 at hm
       refine W.sr fun K135 hK135 => ?_
       refine zR 2 ?_
       obtain ⟨r136, h137, hm⟩ := bind_some hm
       have hs138 := St.f1 hs134
       refine zC22 hs138 (btake_walk (mb := mb) (vb := vb) (at_ := p132) (img := img) (l := l131) (gw := gw) (gi := gi) (gb := gb) (n_ := n_) (hG := hG) (hT := (hs134.oldCellsB hG hT)) (hm := h137) B _) fun w139 hs141 => ?_
       refine zE 4 (hK135 _ _ ?_)
       refine W.ret ?_
       obtain rfl := some_inj hm
       refine ret_of (.tuple #[(.int .i64 r136.1), (.int .i64 r136.2.1)]) (by kernel_rfl) ⟨_, ⟨rfl, rfl⟩, hs141⟩
      ·
       refine W.sr fun K142 hK142 => ?_
       refine zE 2 (hK142 _ _ ?_)
       refine W.cond (!r126.2) (by kernel_rfl) (fun h143 => ?_) (fun h143 => ?_)
       rotate_left
       ·
        have h143p : r126.2 = true := (bnot_false h143)
        replace hm := ite_yes hm h143p
        refine W.skip ?_
        exact ⟨l, r126.1, slots_intro _ (by kernel_rfl), hs130, hm⟩
       ·
        have h143p : ¬ (r126.2 = true) := ne_true_of_eq_false (bnot_true h143)
        replace hm := ite_no hm h143p
        refine W.seq fun K144 hK144 => ?_
        refine W.sr fun K145 hK145 => ?_
        refine zR 2 ?_
        obtain ⟨r146, h147, hm⟩ := bind_some hm
        refine zC00 hs130 (bown_walk (w_ := 8) (img := img) (l := l) (gw := gw) (gi := gi) (gb := gb) (n_ := n_) (hmb := (hs130.heapAt 1 rfl)) (hv := (hs130.entAt 0 rfl viewA_at)) (hm := h147) B _) fun w148 hs150 => ?_
        obtain ⟨r151, h152, hm⟩ := bind_some hm
        have hs153 := St.f1 hs150
        refine zC22 hs153 (btake_walk (mb := mb) (vb := vb) (at_ := r146) (img := img) (l := l) (gw := gw) (gi := gi) (gb := gb) (n_ := n_) (hG := hG) (hT := (hs150.oldCellsB hG hT)) (hm := h152) B _) fun w154 hs156 => ?_
        refine zE 5 (hK145 _ _ ?_)
        refine W.sr fun K157 hK157 => ?_
        refine zE 2 (hK157 _ _ ?_)
        refine W.cond (!decide (r151.2.1 = 0)) (by kernel_rfl) (fun h158 => ?_) (fun h158 => ?_)
        rotate_left
        ·
         have h158p : r151.2.1 = 0 := of_decide_eq_true (bnot_false h158)
         replace hm := ite_yes hm h158p
         refine W.skip ?_
         refine hK144 _ _ ?_
         refine W.region ?_
         refine zR 2 ?_
         obtain ⟨r159, h160, hm⟩ := bind_some hm
         refine zC00 hs156 (bword_walk (k_ := k_) (img := img) (l := r151.2.2) (gw := gw) (gi := gi) (gb := gb) (n_ := n_) (hmb := (hs156.heapAt 0 rfl)) (hv := (hs156.entAt 1 rfl viewA_at)) (hm := h160) B _) fun w161 hs163 => ?_
         refine zE 4 ?_
         have hs164 := St.f1 hs163
         exact ⟨r151.2.2, r159.1, slots_intro _ (by kernel_rfl), hs164, hm⟩
        ·
         have h158p : ¬ (r151.2.1 = 0) := of_decide_eq_false (bnot_true h158)
         replace hm := ite_no hm h158p
         refine W.sr fun K165 hK165 => ?_
         refine zE 3 (hK165 _ _ ?_)
         refine W.ret (ret_seq (ret_seq ?_))
         obtain rfl := some_inj hm
         refine ret_of (.tuple #[(.int .i64 0), (.int .i64 r151.2.1)]) (by kernel_rfl) ⟨_, ⟨rfl, rfl⟩, hs156⟩
    ·
     have h110p : ¬ ((if May gw gi gb then (8 : Int) else 1) = 0) := of_decide_eq_false (bnot_true h110)
     replace hm := ite_no hm h110p
     refine W.sr fun K166 hK166 => ?_
     refine zR 3 ?_
     obtain ⟨r167, h168, hm⟩ := bind_some hm
     replace h168 := some_inj h168
     refine ops_set 5 (v := .int .i64 r167) (Eq.trans (by kernel_rfl) (congrArg (Value.int .i64) h168)) ?_
     refine zD (hK166 _ _ ?_)
     refine W.ret (ret_seq ?_)
     obtain rfl := some_inj hm
     have hs169 := St.f1 hs107
     refine ret_of (.tuple #[(.int .i64 0), (.int .i64 r167)]) (by kernel_rfl) ⟨_, ⟨rfl, rfl⟩, hs169⟩
 ·
  refine W.region ?_
  refine zR 3 ?_
  rcases Bool.eq_false_or_eq_true (!decide (r3.2 = 0)) with h170 | h170
  rotate_left
  ·
   have h170p : r3.2 = 0 := of_decide_eq_true (bnot_false h170)
   replace hm := ite_yes hm h170p
   refine zS 23 h170 ?_
   refine zS 22 h170 ?_
   refine zE 3 ?_
   have hs171 := St.f1 hs7
   exact ⟨(!decide (r3.1 = 0)), slots_intro _ (by kernel_rfl), hs171, hm⟩
  ·
   have h170p : ¬ (r3.2 = 0) := of_decide_eq_false (bnot_true h170)
   replace hm := ite_no hm h170p
   refine zS 23 h170 ?_
   refine zS 22 h170 ?_
   refine zE 3 ?_
   have hs172 := St.f1 hs7
   exact ⟨true, slots_intro _ (by kernel_rfl), hs172, hm⟩

def bDrop_J1 (img : List Int) (gw : Int) (gi : Int) (gb : Int) (n_ : Int) (r21 : Int × List (Int × Int)) (r32 : Int) (p37 : Bool) : Option (Int × List (Int × Int)) :=
 if p37 = true then ((bown_M gw gi gb n_ 8).bind fun r42 =>
(bgive_M img r21.2 gw gi gb r42 r32).bind fun r47 =>
some (r47.1, r47.2)) else (some (0, r21.2))

def bDrop_M (img : List Int) (l : List (Int × Int)) (gw : Int) (gi : Int) (gb : Int) (n_ : Int) (k_ : Int) : Option (Int × List (Int × Int)) :=
 (bat_M img l gw gi gb n_ k_).bind fun r3 =>
if r3.2 = 0 then (if r3.1 = 0 then (some (r3.2, l)) else ((bword_M img l gw gi gb n_ k_).bind fun r14 =>
(bgive_M img l gw gi gb r14.1 r3.1).bind fun r21 =>
if r21.1 = 0 then ((bchain_M img r21.2 gw gi gb n_).bind fun r32 =>
if r32 = 0 then (bDrop_J1 img gw gi gb n_ r21 r32 false) else ((bbare_M img r21.2 gw gi gb r32).bind fun r57 =>
bDrop_J1 img gw gi gb n_ r21 r32 r57)) else (some (r21.1, r21.2)))) else (some (r3.2, l))

theorem bDrop_walk {img : List Int} {l : List (Int × Int)} {gw : Int} {gi : Int} {gb : Int} {n_ : Int} {k_ : Int} {mb vb : Nat} {r : Int × List (Int × Int)} (B : Nat) (w : World) (hm : bDrop_M img l gw gi gb n_ k_ = some r) : Spec Tryd.prog 18 #[(.pointer (some ⟨mb, 0, none⟩)), (.int .i64 k_)] B w [blk mb (.cells [(.pointer (some ⟨vb, 0, none⟩)), (.int .i64 gw), (.int .i64 gi), (.int .i64 gb), (.int .i64 n_)].toArray 85 (0, 0)), viewA (ptr vb) img l] (fun v H' => v = (.int .i64 r.1) ∧ H' = [blk mb (.cells [(.pointer (some ⟨vb, 0, none⟩)), (.int .i64 gw), (.int .i64 gi), (.int .i64 gb), (.int .i64 n_)].toArray 85 (0, 0)), viewA (ptr vb) img r.2]) := by
 refine spec_W Tryd.func18 rfl fun l0 hs => ?_
 unfold bDrop_M at hm
 refine W.sr fun K1 hK1 => ?_
 refine zE 1 (hK1 _ _ ?_)
 refine W.sr fun K2 hK2 => ?_
 refine zR 2 ?_
 obtain ⟨r3, h4, hm⟩ := bind_some hm
 refine zC00 hs (bat_walk (k_ := k_) (img := img) (l := l) (gw := gw) (gi := gi) (gb := gb) (n_ := n_) (hmb := (hs.heapAt 0 rfl)) (hv := (hs.entAt 1 rfl viewA_at)) (hm := h4) B _) fun w5 hs7 => ?_
 refine zE 5 (hK2 _ _ ?_)
 refine W.seq fun K8 hK8 => ?_
 refine W.sr fun K9 hK9 => ?_
 refine zR 3 ?_
 rcases Bool.eq_false_or_eq_true (!decide (r3.2 = 0)) with h10 | h10
 rotate_left
 ·
  have h10p : r3.2 = 0 := of_decide_eq_true (bnot_false h10)
  replace hm := ite_yes hm h10p
  refine zS 19 h10 ?_
  refine zS 18 h10 ?_
  refine zE 3 (hK9 _ _ ?_)
  refine W.cond (decide (r3.1 = 0)) (by kernel_rfl) (fun h11 => ?_) (fun h11 => ?_)
  ·
   obtain ⟨h11p, hm⟩ := iY hm h11
   refine W.sr fun K12 hK12 => ?_
   refine zE 2 (hK12 _ _ ?_)
   refine W.ret (ret_seq ?_)
   obtain rfl := some_inj hm
   refine ret_of (.int .i64 r3.2) (by kernel_rfl) ⟨_, ⟨rfl, rfl⟩, hs7⟩
  ·
   obtain ⟨h11p, hm⟩ := iN hm h11
   refine W.skip ?_
   refine hK8 _ _ ?_
   refine W.sr fun K13 hK13 => ?_
   refine zR 2 ?_
   obtain ⟨r14, h15, hm⟩ := bind_some hm
   refine zC00 hs7 (bword_walk (k_ := k_) (img := img) (l := l) (gw := gw) (gi := gi) (gb := gb) (n_ := n_) (hmb := (hs7.heapAt 0 rfl)) (hv := (hs7.entAt 1 rfl viewA_at)) (hm := h15) B _) fun w16 hs18 => ?_
   refine zE 5 (hK13 _ _ ?_)
   refine W.seq fun K19 hK19 => ?_
   refine W.sr fun K20 hK20 => ?_
   refine zR 3 ?_
   obtain ⟨r21, h22, hm⟩ := bind_some hm
   have hs23 := St.f1 hs18
   have hs24 := St.f1 hs23
   refine zC22 hs24 (bgive_walk (mb := mb) (vb := vb) (at_ := r14.1) (b_ := r3.1) (img := img) (l := l) (gw := gw) (gi := gi) (gb := gb) (n_ := n_) (hm := h22) B _) fun w25 hs27 => ?_
   refine zE 1 (hK20 _ _ ?_)
   refine W.sr fun K28 hK28 => ?_
   refine zE 2 (hK28 _ _ ?_)
   refine W.cond (!decide (r21.1 = 0)) (by kernel_rfl) (fun h29 => ?_) (fun h29 => ?_)
   rotate_left
   ·
    have h29p : r21.1 = 0 := of_decide_eq_true (bnot_false h29)
    replace hm := ite_yes hm h29p
    refine W.skip ?_
    refine hK19 _ _ ?_
    refine W.seq fun K30 hK30 => ?_
    refine W.sr fun K31 hK31 => ?_
    refine zR 1 ?_
    obtain ⟨r32, h33, hm⟩ := bind_some hm
    refine zC00 hs27 (bchain_walk (img := img) (l := r21.2) (gw := gw) (gi := gi) (gb := gb) (n_ := n_) (hmb := (hs27.heapAt 0 rfl)) (hv := (hs27.entAt 1 rfl viewA_at)) (hm := h33) B _) fun w34 hs36 => ?_
    refine zE 1 (hK31 _ _ ?_)
    refine W.seq_join (fun s_ w_ => ∃ (p37 : Bool), (∃ us, s_ = slots 51 [(0, (.pointer (some ⟨mb, 0, none⟩))), (10, (.int .i64 r32)), (45, (.bool p37))] us) ∧ St B w l0 w_ [viewA (ptr vb) img r21.2, blk mb (.cells [(.pointer (some ⟨vb, 0, none⟩)), (.int .i64 gw), (.int .i64 gi), (.int .i64 gb), (.int .i64 n_)].toArray 85 (0, 0))] ∧ bDrop_J1 img gw gi gb n_ r21 r32 p37 = some r) ?_ ?_
    ·
     rintro _ w38 ⟨p37, ⟨us, rfl⟩, hs39, hm⟩
     unfold bDrop_J1 at hm
     refine W.cond p37 (by kernel_rfl) (fun h40 => ?_) (fun h40 => ?_)
     ·
      have h40p : p37 = true := h40
      replace hm := ite_yes hm h40p
      refine W.sr fun K41 hK41 => ?_
      refine zR 2 ?_
      obtain ⟨r42, h43, hm⟩ := bind_some hm
      refine zC00 hs39 (bown_walk (w_ := 8) (img := img) (l := r21.2) (gw := gw) (gi := gi) (gb := gb) (n_ := n_) (hmb := (hs39.heapAt 1 rfl)) (hv := (hs39.entAt 0 rfl viewA_at)) (hm := h43) B _) fun w44 hs46 => ?_
      refine zR 1 ?_
      obtain ⟨r47, h48, hm⟩ := bind_some hm
      have hs49 := St.f1 hs46
      refine zC22 hs49 (bgive_walk (mb := mb) (vb := vb) (at_ := r42) (b_ := r32) (img := img) (l := r21.2) (gw := gw) (gi := gi) (gb := gb) (n_ := n_) (hm := h48) B _) fun w50 hs52 => ?_
      refine zE 1 (hK41 _ _ ?_)
      refine W.ret (ret_seq ?_)
      obtain rfl := some_inj hm
      refine ret_of (.int .i64 r47.1) (by kernel_rfl) ⟨_, ⟨rfl, rfl⟩, hs52⟩
     ·
      have h40p : ¬ (p37 = true) := ne_true_of_eq_false h40
      replace hm := ite_no hm h40p
      refine W.skip ?_
      refine hK30 _ _ ?_
      refine W.sr fun K53 hK53 => ?_
      refine zE 1 (hK53 _ _ ?_)
      refine W.ret ?_
      obtain rfl := some_inj hm
      have hs54 := St.f1 hs39
      refine ret_of (.int .i64 0) (by kernel_rfl) ⟨_, ⟨rfl, rfl⟩, hs54⟩
    ·
     refine W.region ?_
     refine zR 3 ?_
     rcases Bool.eq_false_or_eq_true (!decide (r32 = 0)) with h55 | h55
     rotate_left
     ·
      have h55p : r32 = 0 := of_decide_eq_true (bnot_false h55)
      replace hm := ite_yes hm h55p
      refine zS 41 h55 ?_
      refine zS 40 h55 ?_
      refine zE 4 ?_
      have hs56 := St.f1 hs36
      exact ⟨false, slots_intro _ (by kernel_rfl), hs56, hm⟩
     ·
      have h55p : ¬ (r32 = 0) := of_decide_eq_false (bnot_true h55)
      replace hm := ite_no hm h55p
      refine zS 41 h55 ?_
      refine zS 40 h55 ?_
      refine zR 2 ?_
      obtain ⟨r57, h58, hm⟩ := bind_some hm
      refine zC00 hs36 (bbare_walk (b_ := r32) (img := img) (l := r21.2) (gw := gw) (gi := gi) (gb := gb) (n_ := n_) (hmb := (hs36.heapAt 0 rfl)) (hv := (hs36.entAt 1 rfl viewA_at)) (hm := h58) B _) fun w59 hs61 => ?_
      refine zE 1 ?_
      have hs62 := St.f1 hs61
      exact ⟨r57, slots_intro _ (by kernel_rfl), hs62, hm⟩
   ·
    have h29p : ¬ (r21.1 = 0) := of_decide_eq_false (bnot_true h29)
    replace hm := ite_no hm h29p
    refine W.sr fun K63 hK63 => ?_
    refine zE 2 (hK63 _ _ ?_)
    refine W.ret (ret_seq ?_)
    obtain rfl := some_inj hm
    refine ret_of (.int .i64 r21.1) (by kernel_rfl) ⟨_, ⟨rfl, rfl⟩, hs27⟩
 ·
  have h10p : ¬ (r3.2 = 0) := of_decide_eq_false (bnot_true h10)
  replace hm := ite_no hm h10p
  refine zS 19 h10 ?_
  refine zS 18 h10 ?_
  refine zE 3 (hK9 _ _ ?_)
  refine W.cond_true true (by kernel_rfl) rfl ?_
  refine W.sr fun K64 hK64 => ?_
  refine zE 2 (hK64 _ _ ?_)
  refine W.ret (ret_seq ?_)
  obtain rfl := some_inj hm
  refine ret_of (.int .i64 r3.2) (by kernel_rfl) ⟨_, ⟨rfl, rfl⟩, hs7⟩

end Go.Proofs.YtmmclabkkigiaaaDoor

set_option maxRecDepth 20000
set_option maxHeartbeats 2000000
namespace Go.Proofs.YtmmclabkkigiaaaDoor
open Go Go.RowKit
set_option linter.unusedSimpArgs false
set_option linter.unusedVariables false

theorem places_spec {f_ : Int} (B : Nat) (w : World) : Spec Tryd.prog 52 #[(.int .i64 f_)] B w [] (fun v H' => ∃ b1, v = .func (.func 82) #[] #[ptr b1] ∧ H' = [blk b1 (.cells [(.int .i64 f_)].toArray 3 (0, 0))]) := by
 refine spec_Q Tryd.func52 rfl fun hs => ?_
 refine W.sr fun K1 hK1 => ?_
 refine zN [(.int .i64 f_)] 3 hs fun b4 w2 hs3 => ?_
 refine zE 1 (hK1 _ _ ?_)
 refine W.sr fun K5 hK5 => ?_
 refine zE 2 (hK5 _ _ ?_)
 refine W.ret ?_
 refine ret_of (.func (.func 82) #[] #[(.pointer (some ⟨b4, 0, none⟩))]) (by kernel_rfl) ⟨_, ⟨b4, rfl, rfl⟩, hs3⟩

theorem places1_spec {c1 yl : Nat} {f_ : Int} {Y : Nat → Asn} {Z : Asn} (B : Nat) (w : World) (hf : 0 ≤ f_ ∧ f_ ≤ 12) (hy : ∀ k : Nat, f_ + (k : Int) < 12 → ∀ w', YSpec Tryd.prog yl #[.int .i64 (f_ + (k : Int))] B w' [Y k] (fun v H' => (v = .bool true ∧ H' = [Y (k + 1)]) ∨ (v = .bool false ∧ H' = [Z]))) : Spec Tryd.prog 82 #[(.func (.yield yl) #[] #[]), (.pointer (some ⟨c1, 0, none⟩))] B w [blk c1 (.cells [(.int .i64 f_)].toArray 3 (0, 0)), Y 0] (fun v H' => v = .tuple #[] ∧ (H' = [blk c1 (.cells [(.int .i64 f_)].toArray 3 (0, 0)), Y (12 - f_).toNat] ∨ H' = [blk c1 (.cells [(.int .i64 f_)].toArray 3 (0, 0)), Z])) := by
 refine spec_W Tryd.func82 rfl fun l0 hs => ?_
 refine W.sr fun K1 hK1 => ?_
 refine zL ⟨c1, 0, none⟩ (.int .i64 f_) (hs.cellAt 0 rfl rfl) ?_
 refine ops_val (v := .int .i64 f_) (v' := (.int .i64 (f_ + ((0 : Nat) : Int)))) (by kernel_rfl) (congrArg (Value.int .i64) (by omega)) ?_
 refine zD (hK1 _ _ ?_)
 refine W.block ?_
 refine W.loop (G := Nat) (fun | k, s_, w_ => (∃ us, s_ = slots 13 [(0, (.func (.yield yl) #[] #[])), (3, (.int .i64 (f_ + (k : Int))))] us) ∧ St B w l0 w_ [blk c1 (.cells [(.int .i64 f_)].toArray 3 (0, 0)), Y k] ∧ (f_ + (k : Int) ≤ 12)) (fun k => (12 - f_ - (k : Int)).toNat) 0 ⟨slots_intro _ (by kernel_rfl), hs, by omega⟩ ?_
 rintro k _ w2 ⟨⟨us, rfl⟩, hs3, hk0⟩
 refine W.seq fun K4 hK4 => ?_
 refine W.sr fun K5 hK5 => ?_
 refine zE 2 (hK5 _ _ ?_)
 refine W.cond (decide ((f_ + (k : Int)) < 12)) (by kernel_rfl) (fun h6 => ?_) (fun h6 => ?_)
 ·
  have h6p := of_decide_eq_true h6
  refine W.skip ?_
  refine hK4 _ _ ?_
  refine W.seq fun K7 hK7 => ?_
  refine W.block ?_
  refine W.sr fun K8 hK8 => ?_
  refine zR 2 ?_
  have hs9 := St.f1 hs3
  refine ops_yield (pre := [Y k]) (l := yl) hs9 (by kernel_rfl) (by kernel_rfl) (hy k (by omega) _) ?_
  rintro _ _ w10 (⟨rfl, rfl⟩ | ⟨rfl, rfl⟩) hs11
  ·
   have hs12 : St B w l0 w10 [Y (k + 1), blk c1 (.cells [(.int .i64 f_)].toArray 3 (0, 0))] := hs11
   refine zE 1 (hK8 _ _ ?_)
   refine W.cond_false false (by kernel_rfl) rfl ?_
   refine W.skip ?_
   refine normal_block ?_
   refine hK7 _ _ ?_
   refine W.region ?_
   refine zR 1 ?_
   refine ops_val (v := .int .i64 (IntKind.i64.wrap ((f_ + (k : Int)) + 1))) (v' := (.int .i64 (f_ + ((k + 1 : Nat) : Int)))) (by kernel_rfl) (congrArg (Value.int .i64) ((wrap_i64 (by omega) (by omega)).trans (by omega))) ?_
   refine zE 1 ?_
   have hs13 := St.f1 hs12
   exact ⟨k + 1, ⟨slots_intro _ (by kernel_rfl), hs13, by omega⟩, by omega⟩
  ·
   have hs14 : St B w l0 w10 [Z, blk c1 (.cells [(.int .i64 f_)].toArray 3 (0, 0))] := hs11
   refine zE 1 (hK8 _ _ ?_)
   refine W.cond_true true (by kernel_rfl) rfl ?_
   refine W.ret (ret_block (ret_seq (ret_seq (ret_block ?_))))
   have hs15 := St.f1 hs14
   refine ret_of (.tuple #[]) (by kernel_rfl) ⟨_, ⟨rfl, .inr rfl⟩, hs15⟩
 ·
  have h6p := of_decide_eq_false h6
  refine W.exit (exit_seq (exit_seq (exit_here ?_)))
  have hn_ : k = (12 - f_).toNat := by omega
  subst hn_
  refine ret_ofN (.tuple #[]) (by kernel_rfl) ⟨_, ⟨rfl, .inl rfl⟩, hs3⟩

end Go.Proofs.YtmmclabkkigiaaaDoor

set_option linter.unusedVariables false
set_option maxRecDepth 20000
set_option maxHeartbeats 4000000
namespace Go.Proofs.YtmmclabkkigiaaaDoor
open Go Go.RowKit
set_option linter.unusedSimpArgs false
set_option linter.unusedVariables false

def bCut_D21 (l20 : List (Int × Int)) : Option (Int × List (Int × Int)) :=
 some (0, l20)

def bCut_X21 (l22 : List (Int × Int)) (p23 : Int) : Option (Int × List (Int × Int)) :=
 some (p23, l22)

def bCut_R21 (img : List Int) (gw : Int) (gi : Int) (gb : Int) (n_ : Int) (f_ : Int) (k18 : Nat) (c19 : (List (Int × Int)) → Option (Int × List (Int × Int))) (l20 : List (Int × Int)) : Option (Int × List (Int × Int)) :=
 (some ((f_ : Int) + (k18 : Int))).bind fun r69 =>
(bDrop_M img l20 gw gi gb n_ r69).bind fun r74 =>
if r74.1 = 0 then (c19 r74.2) else (bCut_X21 r74.2 r74.1)

def bCut_J1 (img : List Int) (l : List (Int × Int)) (gw : Int) (gi : Int) (gb : Int) (n_ : Int) (f_ : Int) : Option (Int × List (Int × Int)) :=
 need ((0 : Int) ≤ f_ ∧ (f_ : Int) ≤ 12) <|
rounds (fun k_ c_ s_ => bCut_R21 img gw gi gb n_ f_ k_ c_ s_) (fun s_ => bCut_D21 s_) ((12 - (f_ : Int)).toNat) 0 l

def bCut_M (img : List Int) (l : List (Int × Int)) (gw : Int) (gi : Int) (gb : Int) (n_ : Int) (f_ : Int) : Option (Int × List (Int × Int)) :=
 if f_ < 0 then (if f_ < 0 then (some (1, l)) else (bCut_J1 img l gw gi gb n_ f_)) else (if f_ > 12 then (some (1, l)) else (bCut_J1 img l gw gi gb n_ f_))

theorem bCut_walk {img : List Int} {l : List (Int × Int)} {gw : Int} {gi : Int} {gb : Int} {n_ : Int} {f_ : Int} {mb vb : Nat} {r : Int × List (Int × Int)} (B : Nat) (w : World) (hm : bCut_M img l gw gi gb n_ f_ = some r) : Spec Tryd.prog 19 #[(.pointer (some ⟨mb, 0, none⟩)), (.int .i64 f_)] B w [blk mb (.cells [(.pointer (some ⟨vb, 0, none⟩)), (.int .i64 gw), (.int .i64 gi), (.int .i64 gb), (.int .i64 n_)].toArray 85 (0, 0)), viewA (ptr vb) img l] (fun v H' => v = (.int .i64 r.1) ∧ H' = [blk mb (.cells [(.pointer (some ⟨vb, 0, none⟩)), (.int .i64 gw), (.int .i64 gi), (.int .i64 gb), (.int .i64 n_)].toArray 85 (0, 0)), viewA (ptr vb) img r.2]) := by
 refine spec_W Tryd.func19 rfl fun l0 hs => ?_
 unfold bCut_M at hm
 refine W.sr fun K1 hK1 => ?_
 refine zN [(.pointer (some ⟨mb, 0, none⟩))] 24 hs fun b4 w2 hs3 => ?_
 refine zN [(.int .i64 0)] 25 hs3 fun b7 w5 hs6 => ?_
 refine zD (hK1 _ _ ?_)
 refine W.seq_join (fun s_ w_ => (∃ us, s_ = slots 24 [(1, (.int .i64 f_)), (2, (.pointer (some ⟨b4, 0, none⟩))), (4, (.pointer (some ⟨b7, 0, none⟩)))] us) ∧ St B w l0 w_ [viewA (ptr vb) img l, blk mb (.cells [(.pointer (some ⟨vb, 0, none⟩)), (.int .i64 gw), (.int .i64 gi), (.int .i64 gb), (.int .i64 n_)].toArray 85 (0, 0)), blk b4 (.cells [(.pointer (some ⟨mb, 0, none⟩))].toArray 24 (0, 0)), blk b7 (.cells [(.int .i64 0)].toArray 25 (0, 0))] ∧ bCut_J1 img l gw gi gb n_ f_ = some r) ?_ ?_
 ·
  rintro _ w8 ⟨⟨us, rfl⟩, hs9, hm⟩
  unfold bCut_J1 at hm
  refine W.seq fun K10 hK10 => ?_
  refine W.sr fun K11 hK11 => ?_
  refine zR 1 ?_
  refine ops_call0 hs9 (by kernel_rfl) (places_spec (f_ := f_) B _) ?_
  rintro _ _ w13 ⟨b12, rfl, rfl⟩ hs14
  have hs15 := St.ap1 hs14
  refine zD (hK11 _ _ ?_)
  refine W.block ?_
  obtain ⟨h16, hm⟩ := need_some hm
  refine W.norm (n := 24) (l := [(2, (.pointer (some ⟨b4, 0, none⟩))), (4, (.pointer (some ⟨b7, 0, none⟩))), (16, (.func (.func 82) #[] #[(.pointer (some ⟨b12, 0, none⟩))]))]) (by kernel_rfl) (fun us17 => ?_)
  have hs28 := St.f4 hs15
  have hs29 := St.f4 hs28
  have hs30 := St.f4 hs29
  have hs31 := St.f4 hs30
  have hs32 := St.f4 hs31
  have hF33 : rounds (fun k_ c_ s_ => bCut_R21 img gw gi gb n_ f_ k_ c_ s_) (fun s_ => bCut_D21 s_) ((12 - (f_ : Int)).toNat - 0) 0 l = some r := by rw [Nat.sub_zero]; exact hm
  clear hm
  refine W.roundsA (G := (List (Int × Int))) (GZ := (List (Int × Int)) × Int) (gf := 82) (lb := #[(.pointer (some ⟨b12, 0, none⟩))]) ((12 - (f_ : Int)).toNat) (fun k_ l20 => rounds (fun k_ c_ s_ => bCut_R21 img gw gi gb n_ f_ k_ c_ s_) (fun s_ => bCut_D21 s_) ((12 - (f_ : Int)).toNat - k_) k_ l20 = some r) (fun l20 => [viewA (ptr vb) img l20, blk mb (.cells [(.pointer (some ⟨vb, 0, none⟩)), (.int .i64 gw), (.int .i64 gi), (.int .i64 gb), (.int .i64 n_)].toArray 85 (0, 0)), blk b4 (.cells [(.pointer (some ⟨mb, 0, none⟩))].toArray 24 (0, 0)), blk b7 (.cells [(.int .i64 0)].toArray 25 (0, 0))]) .ret (fun (l22, p23) => bCut_X21 l22 p23 = some r) (fun (l22, p23) => [viewA (ptr vb) img l22, blk mb (.cells [(.pointer (some ⟨vb, 0, none⟩)), (.int .i64 gw), (.int .i64 gi), (.int .i64 gb), (.int .i64 n_)].toArray 85 (0, 0)), blk b4 (.cells [(.pointer (some ⟨mb, 0, none⟩))].toArray 24 (0, 0)), blk b7 (.cells [(.int .i64 p23)].toArray 25 (0, 0))]) [blk b12 (.cells [(.int .i64 f_)].toArray 3 (0, 0))] (fun k_ => #[(.int .i64 ((f_ : Int) + (k_ : Int)))]) (fun k_ l_ => slotsD 24 ((17, (.int .i64 ((f_ : Int) + (k_ : Int)))) :: [(2, (.pointer (some ⟨b4, 0, none⟩))), (4, (.pointer (some ⟨b7, 0, none⟩))), (16, (.func (.func 82) #[] #[(.pointer (some ⟨b12, 0, none⟩))]))]) us17 (some l_) []) l hF33 hs32 rfl (by kernel_rfl) (fun _ _ => by kernel_rfl) (fun _ => rfl) (fun a_ k_ l_ h1_ h2_ => ⟨rel_round1 (n := 24) (by decide) h1_ h2_, rfl⟩) (fun l_ => #[.func (.yield l_) #[] #[], (.pointer (some ⟨b12, 0, none⟩))]) (fun _ => rfl) (fun l_ w_ Y_ Z_ hy_ => places1_spec (yl := l_) (Y := Y_) (Z := Z_) (hf := h16) (hy := fun k_ h_ w_ => hy_ k_ (by omega) w_) _ w_) ?_ ?_ ?_
  rotate_left
  ·
   rintro D27 w34 l20 hF36 hs35
   replace hF36 : rounds (fun k_ c_ s_ => bCut_R21 img gw gi gb n_ f_ k_ c_ s_) (fun s_ => bCut_D21 s_) ((12 - (f_ : Int)).toNat - (12 - (f_ : Int)).toNat) ((12 - (f_ : Int)).toNat) l20 = some r := hF36
   rw [rounds_end] at hF36
   have hm : bCut_D21 l20 = some r := hF36
   clear hF36
   unfold bCut_D21 at hm
   have hs37 : St B w l0 w34 [blk D27 (.deferred (some [])), blk b12 (.cells [(.int .i64 f_)].toArray 3 (0, 0)), viewA (ptr vb) img l20, blk mb (.cells [(.pointer (some ⟨vb, 0, none⟩)), (.int .i64 gw), (.int .i64 gi), (.int .i64 gb), (.int .i64 n_)].toArray 85 (0, 0)), blk b4 (.cells [(.pointer (some ⟨mb, 0, none⟩))].toArray 24 (0, 0)), blk b7 (.cells [(.int .i64 0)].toArray 25 (0, 0))] := hs35
   refine normal_block ?_
   refine hK10 _ _ ?_
   refine W.sr fun K38 hK38 => ?_
   have hs41 := St.f5 hs37
   refine ops_store (off := 0) (cs := [(.int .i64 0)]) (vs := [(.int .i64 0)]) hs41 (by kernel_rfl) (by simp) rfl (fun w39 hs40 => ?_)
   have hs42 : St B w l0 w39 [blk b7 (.cells [(.int .i64 0)].toArray 25 (0, 0)), blk D27 (.deferred (some [])), blk b12 (.cells [(.int .i64 f_)].toArray 3 (0, 0)), viewA (ptr vb) img l20, blk mb (.cells [(.pointer (some ⟨vb, 0, none⟩)), (.int .i64 gw), (.int .i64 gi), (.int .i64 gb), (.int .i64 n_)].toArray 85 (0, 0)), blk b4 (.cells [(.pointer (some ⟨mb, 0, none⟩))].toArray 24 (0, 0))] := hs40
   refine zD (hK38 _ _ ?_)
   refine W.ret ?_
   obtain rfl := some_inj hm
   have hs43 := St.f5 hs42
   have hs44 := St.f5 hs43
   have hs45 := St.f5 hs44
   have hs46 := St.f5 hs45
   have hs47 := St.f4 hs46
   have hs48 := St.f5 hs47
   refine leave_mark (D := D27) (v := (.int .i64 0)) hs48 (by kernel_rfl) (fun w49 hs50 => (resD_one rfl (.cell (ad := ⟨b7, 0, none⟩) (by kernel_rfl) (by kernel_rfl) (hs50.cellAt 0 rfl rfl)))) (fun w49 hs50 => ?_)
   have hs51 := St.f2 hs50
   have hs52 := St.f3 hs51
   have hs53 := St.tk2 hs52
   exact ⟨_, ⟨rfl, rfl⟩, hs53⟩
  ·
   rintro D56 w54 ⟨l22, p23⟩ hm hs55
   replace hm : bCut_X21 l22 p23 = some r := hm
   unfold bCut_X21 at hm
   have hs57 : St B w l0 w54 [blk D56 (.deferred (some [])), blk b12 (.cells [(.int .i64 f_)].toArray 3 (0, 0)), viewA (ptr vb) img l22, blk mb (.cells [(.pointer (some ⟨vb, 0, none⟩)), (.int .i64 gw), (.int .i64 gi), (.int .i64 gb), (.int .i64 n_)].toArray 85 (0, 0)), blk b4 (.cells [(.pointer (some ⟨mb, 0, none⟩))].toArray 24 (0, 0)), blk b7 (.cells [(.int .i64 p23)].toArray 25 (0, 0))] := hs55
   refine W.ret (ret_block (ret_seq ?_))
   obtain rfl := some_inj hm
   refine leave_mark (D := D56) (v := (.int .i64 p23)) hs57 (by kernel_rfl) (fun w58 hs59 => (resD_one rfl (.cell (ad := ⟨b7, 0, none⟩) (by kernel_rfl) (by kernel_rfl) (hs59.cellAt 4 rfl rfl)))) (fun w58 hs59 => ?_)
   have hs60 := St.f1 hs59
   have hs61 := St.f2 hs60
   have hs62 := St.tk2 hs61
   exact ⟨_, ⟨rfl, rfl⟩, hs62⟩
  ·
   rintro k18 hk63 rc25 l24 w64 l20 hF68 lf65 hs66 K67 hK67
   replace hF68 : rounds (fun k_ c_ s_ => bCut_R21 img gw gi gb n_ f_ k_ c_ s_) (fun s_ => bCut_D21 s_) ((12 - (f_ : Int)).toNat - k18) k18 l20 = some r := hF68
   rw [rounds_at hk63] at hF68
   obtain ⟨c19, hc19⟩ : ∃ c_, c_ = rounds (fun k_ c_ s_ => bCut_R21 img gw gi gb n_ f_ k_ c_ s_) (fun s_ => bCut_D21 s_) ((12 - (f_ : Int)).toNat - (k18 + 1)) (k18 + 1) := ⟨_, rfl⟩
   rw [← hc19] at hF68
   have hm : bCut_R21 img gw gi gb n_ f_ k18 c19 l20 = some r := hF68
   clear hF68
   unfold bCut_R21 at hm
   refine W.region ?_
   refine zR 1 ?_
   obtain ⟨r69, h70, hm⟩ := bind_some hm
   replace h70 := some_inj h70
   refine ops_set 5 (v := .int .i64 r69) (Eq.trans (by kernel_rfl) (congrArg (Value.int .i64) h70)) ?_
   refine zD ?_
   refine hK67 _ _ hs66 (fun w71 hs72 => ?_)
   refine W.block ?_
   refine W.sr fun K73 hK73 => ?_
   refine zL ⟨b4, 0, none⟩ (.pointer (some ⟨mb, 0, none⟩)) (hs72.cellAt 3 rfl rfl) ?_
   refine zR 1 ?_
   obtain ⟨r74, h75, hm⟩ := bind_some hm
   have hs76 := St.f1 hs72
   have hs77 := St.f2 hs76
   refine zC22 hs77 (bDrop_walk (mb := mb) (vb := vb) (k_ := r69) (img := img) (l := l20) (gw := gw) (gi := gi) (gb := gb) (n_ := n_) (hm := h75) B _) fun w78 hs80 => ?_
   refine zE 1 (hK73 _ _ ?_)
   refine W.sr fun K81 hK81 => ?_
   refine zE 2 (hK81 _ _ ?_)
   refine W.cond (!decide (r74.1 = 0)) (by kernel_rfl) (fun h82 => ?_) (fun h82 => ?_)
   rotate_left
   ·
    have h82p : r74.1 = 0 := of_decide_eq_true (bnot_false h82)
    replace hm := ite_yes hm h82p
    refine W.skip ?_
    refine normal_block ?_
    have hs83 := St.f4 hs80
    have hs84 := St.f4 hs83
    have hs85 := St.f2 hs84
    have hs86 := St.f3 hs85
    have hs87 := St.f4 hs86
    rw [hc19] at hm
    exact ⟨r74.2, hm, hs87⟩
   ·
    have h82p : ¬ (r74.1 = 0) := of_decide_eq_false (bnot_true h82)
    replace hm := ite_no hm h82p
    refine W.sr fun K88 hK88 => ?_
    refine zR 1 ?_
    have hs91 := St.f4 hs80
    refine ops_store (off := 0) (cs := [(.int .i64 0)]) (vs := [(.int .i64 r74.1)]) hs91 (by kernel_rfl) (by simp) rfl (fun w89 hs90 => ?_)
    have hs92 : St B w64 lf65 w89 [blk b7 (.cells [(.int .i64 r74.1)].toArray 25 (0, 0)), blk mb (.cells [(.pointer (some ⟨vb, 0, none⟩)), (.int .i64 gw), (.int .i64 gi), (.int .i64 gb), (.int .i64 n_)].toArray 85 (0, 0)), viewA (ptr vb) img r74.2, blk l24 (.loop { rc25 with state := .busy }), blk b4 (.cells [(.pointer (some ⟨mb, 0, none⟩))].toArray 24 (0, 0))] := hs90
    refine zD (hK88 _ _ ?_)
    refine W.ret (ret_block ?_)
    have hs93 := St.f4 hs92
    have hs94 := St.f2 hs93
    have hs95 := St.f3 hs94
    have hs96 := St.f4 hs95
    exact ⟨rfl, (r74.2, r74.1), hm, hs96⟩
 ·
  refine W.block ?_
  refine W.sr fun K97 hK97 => ?_
  refine zL ⟨b4, 0, none⟩ (.pointer (some ⟨mb, 0, none⟩)) (hs6.cellAt 1 rfl rfl) ?_
  refine zE 2 (hK97 _ _ ?_)
  refine W.cond_false false (by kernel_rfl) rfl ?_
  refine W.seq fun K98 hK98 => ?_
  refine W.sr fun K99 hK99 => ?_
  refine zE 3 (hK99 _ _ ?_)
  refine W.cond (decide (f_ < 0)) (by kernel_rfl) (fun h100 => ?_) (fun h100 => ?_)
  ·
   obtain ⟨h100p, hm⟩ := iY hm h100
   refine W.skip ?_
   refine hK98 _ _ ?_
   refine W.cond (decide (f_ < 0)) (by kernel_rfl) (fun h101 => ?_) (fun h101 => ?_)
   ·
    obtain ⟨h101p, hm⟩ := iY hm h101
    refine W.sr fun K102 hK102 => ?_
    refine ops_store (off := 0) (cs := [(.int .i64 0)]) (vs := [(.int .i64 1)]) hs6 (by kernel_rfl) (by simp) rfl (fun w103 hs104 => ?_)
    have hs105 : St B w l0 w103 [blk b7 (.cells [(.int .i64 1)].toArray 25 (0, 0)), blk b4 (.cells [(.pointer (some ⟨mb, 0, none⟩))].toArray 24 (0, 0)), blk mb (.cells [(.pointer (some ⟨vb, 0, none⟩)), (.int .i64 gw), (.int .i64 gi), (.int .i64 gb), (.int .i64 n_)].toArray 85 (0, 0)), viewA (ptr vb) img l] := hs104
    refine zD (hK102 _ _ ?_)
    refine W.ret (ret_block (ret_seq ?_))
    obtain rfl := some_inj hm
    have hs106 := St.f3 hs105
    have hs107 := St.f3 hs106
    have hs108 := St.tk2 hs107
    refine ret_of (.int .i64 1) (resS_of (by kernel_rfl) (resD_one rfl (.cell (ad := ⟨b7, 0, none⟩) (by kernel_rfl) (by kernel_rfl) (hs105.cellAt 0 rfl rfl)))) ⟨_, ⟨rfl, rfl⟩, hs108⟩
   ·
    obtain ⟨h101p, hm⟩ := iN hm h101
    refine W.skip ?_
    refine normal_block ?_
    have hs109 := St.f1 hs6
    have hs110 := St.f2 hs109
    have hs111 := St.f3 hs110
    exact ⟨slots_intro _ (by kernel_rfl), hs111, hm⟩
  ·
   obtain ⟨h100p, hm⟩ := iN hm h100
   refine W.region ?_
   refine zE 3 (hK98 _ _ ?_)
   refine W.cond (decide (f_ > 12)) (by kernel_rfl) (fun h112 => ?_) (fun h112 => ?_)
   ·
    obtain ⟨h112p, hm⟩ := iY hm h112
    refine W.sr fun K113 hK113 => ?_
    refine ops_store (off := 0) (cs := [(.int .i64 0)]) (vs := [(.int .i64 1)]) hs6 (by kernel_rfl) (by simp) rfl (fun w114 hs115 => ?_)
    have hs116 : St B w l0 w114 [blk b7 (.cells [(.int .i64 1)].toArray 25 (0, 0)), blk b4 (.cells [(.pointer (some ⟨mb, 0, none⟩))].toArray 24 (0, 0)), blk mb (.cells [(.pointer (some ⟨vb, 0, none⟩)), (.int .i64 gw), (.int .i64 gi), (.int .i64 gb), (.int .i64 n_)].toArray 85 (0, 0)), viewA (ptr vb) img l] := hs115
    refine zD (hK113 _ _ ?_)
    refine W.ret (ret_block (ret_seq ?_))
    obtain rfl := some_inj hm
    have hs117 := St.f3 hs116
    have hs118 := St.f3 hs117
    have hs119 := St.tk2 hs118
    refine ret_of (.int .i64 1) (resS_of (by kernel_rfl) (resD_one rfl (.cell (ad := ⟨b7, 0, none⟩) (by kernel_rfl) (by kernel_rfl) (hs116.cellAt 0 rfl rfl)))) ⟨_, ⟨rfl, rfl⟩, hs119⟩
   ·
    obtain ⟨h112p, hm⟩ := iN hm h112
    refine W.skip ?_
    refine normal_block ?_
    have hs120 := St.f1 hs6
    have hs121 := St.f2 hs120
    have hs122 := St.f3 hs121
    exact ⟨slots_intro _ (by kernel_rfl), hs122, hm⟩

end Go.Proofs.YtmmclabkkigiaaaDoor

namespace Go.Proofs.YtmmclabkkigiaaaDoor
open Go Go.RowKit
set_option linter.unusedVariables false
set_option linter.unusedSimpArgs false

structure Dk (gi gb : Int) (img : List Int) (l : List (Int × Int)) : Prop where
  may : May 1 gi gb
  len : (img.length : Int) = 488 + 16 * gi + 8 * gb
  vr : VR img l
  ok : VOk img l
section
variable {gi gb : Int} {img : List Int} {l : List (Int × Int)}
theorem Dk.g (h : Dk gi gb img l) : (2 ≤ gi ∧ gi ≤ 64) ∧ (2 ≤ gb ∧ gb ≤ 512) := (may_out h.may).2
theorem Dk.words (h : Dk gi gb img l) : wordsOf 1 gi gb = (img.length : Int) := by
  have := words_may h.may
  have := h.len
  omega
theorem Dk.write (h : Dk gi gb img l) {a x : Int} (ha : 0 ≤ a ∧ a < (img.length : Int)) (hx : U64 x) (hl : l.length < 96) :
    ∃ m, vwrite img l a x = (0, m) ∧ Dk gi gb img m ∧ m.length ≤ l.length + 1 ∧ ∀ z, vget img m z = if z = a then x else vget img l z := by
  unfold vwrite
  rw [if_neg (by omega)]
  by_cases e : vget img l a = x
  · rw [if_pos e]
    refine ⟨l, rfl, h, by omega, fun z => ?_⟩
    by_cases hz : z = a
    · rw [if_pos hz, hz, e]
    · rw [if_neg hz]
  · rw [if_neg e, vput_in ha hl]
    have hlen := vput_len img l a x
    rw [vput_in ha hl] at hlen
    exact ⟨_, rfl, ⟨h.may, h.len, h.vr.put ha hx, h.ok.put ha (.inr hl)⟩, hlen, fun z => vget_vset ha⟩
theorem mbits_congr {img' : List Int} {l' : List (Int × Int)} {at_ : Int} {j : Nat} (h : vget img l (at_ + ((j / 64 : Nat) : Int)) = vget img' l' (at_ + ((j / 64 : Nat) : Int))) : mbits img l at_ j = mbits img' l' at_ j := by
  unfold mbits
  rw [h]
theorem Dk.take (h : Dk gi gb img l) {i : Nat} (hi : i < gb.toNat) (h1 : 1 ≤ i) (hf : mbits img l 480 i = false) (hlow : ∀ j, j < i → mbits img l 480 j = true) {at_ : Int} (ha : 488 ≤ at_ ∧ at_ < (img.length : Int))
    (hat : ¬ (488 + 16 * gi + 8 * (i : Int) ≤ at_ ∧ at_ < 488 + 16 * gi + 8 * (i : Int) + 8)) (hl : l.length + 10 ≤ 96) :
    ∃ m, btake_M img l 1 gi gb at_ = some ((i : Int), 0, m) ∧ Dk gi gb img m ∧ m.length ≤ l.length + 10 ∧
      (∀ z, ¬ (480 ≤ z ∧ z < 488) → vget img m z = if z = at_ then (i : Int) else if 488 + 16 * gi + 8 * (i : Int) ≤ z ∧ z < 488 + 16 * gi + 8 * (i : Int) + 8 then 0 else vget img l z) ∧
      (∀ j, j < 512 → mbits img m 480 j = if j = i then true else mbits img l 480 j) := by
  have hg := h.g
  have hlen := h.len
  obtain ⟨l1, a1, a2, a3, a4, _, a6, a7⟩ := mset_in (is_ := true) (at_ := 480) (i_ := (i : Int)) (many := gb) h.vr h.ok (by omega) (by omega) (by omega)
  have hp := place9_in (n := (i : Int)) h.may (by omega)
  obtain ⟨l2, c1, c2, c3, c4, c5⟩ := clear_ok (ns := ownL (488 + 16 * gi + 8 * (i : Int))) a3 a2 (fun n hn => by rw [mem_own] at hn; omega) (by rw [show (ownL (488 + 16 * gi + 8 * (i : Int))).length = 8 from rfl]; omega)
  rw [show (ownL (488 + 16 * gi + 8 * (i : Int))).length = 8 from rfl] at c4
  have hd2 : Dk gi gb img l2 := ⟨h.may, h.len, c3, c2⟩
  obtain ⟨m, d1, d2, d3, d4⟩ := hd2.write (a := at_) (x := (i : Int)) (by omega) (by unfold U64; omega) (by omega)
  have hT : takeBF img l 1 gi gb 480 = ((i : Int), 0, l2) := by
    unfold takeBF
    rw [lst_at hi hf hlow]
    simp only
    rw [if_pos trivial, a1, if_pos rfl, hp]
    simp only
    rw [c1, if_pos rfl]
  refine ⟨m, ?_, d2, by omega, fun z hz => ?_, fun j hj => ?_⟩
  · unfold btake_M
    have hw := h.words
    have hI : ¬ ((i : Int) = 0) := by omega
    refine need_of (by omega) ?_
    rw [if_pos ⟨h.may, by omega⟩, place7 h.may]
    simp only [Int.reduceMul, Int.reduceAdd]
    rw [atakeb_ok h.vr (by omega) (by omega), hT]
    simp only [Option.bind, if_true, if_neg hI]
    unfold btake_J1
    rw [if_pos rfl]
    refine need_of (by omega) ?_
    simp only [Option.bind, d1]
    unfold btake_J2
    rw [if_pos rfl]
  · rw [d4, c5]
    by_cases e : z = at_
    · rw [if_pos e, if_pos e]
    · rw [if_neg e, if_neg e]
      simp only [mem_own]
      split
      · rfl
      · rw [a6, if_neg (by omega)]
  · have e1 := a7 j
    rw [Int.toNat_natCast] at e1
    rw [← e1]
    refine mbits_congr ?_
    rw [d4, if_neg (by omega), c5]
    simp only [mem_own]
    rw [if_neg (by omega)]
theorem Dk.give (h : Dk gi gb img l) {b : Int} (hb : 1 ≤ b ∧ b < gb) (hu : mbits img l 480 b.toNat = true) {at_ : Int} (ha : 488 ≤ at_ ∧ at_ < (img.length : Int)) (hl : l.length + 2 ≤ 96) :
    ∃ m, bgive_M img l 1 gi gb at_ b = some (0, m) ∧ Dk gi gb img m ∧ m.length ≤ l.length + 2 ∧ (∀ z, ¬ (480 ≤ z ∧ z < 488) → vget img m z = if z = at_ then 0 else vget img l z) ∧
      (∀ j, j < 512 → mbits img m 480 j = if j = b.toNat then false else mbits img l 480 j) := by
  have hg := h.g
  have hlen := h.len
  obtain ⟨l1, a1, a2, a3, a4, _, a6, a7⟩ := mset_in (is_ := false) (at_ := 480) (i_ := b) (many := gb) h.vr h.ok (by omega) (by omega) (by omega)
  have hd1 : Dk gi gb img l1 := ⟨h.may, h.len, a2, a3⟩
  obtain ⟨m, d1, d2, d3, d4⟩ := hd1.write (a := at_) (x := 0) (by omega) u64_zero (by omega)
  refine ⟨m, ?_, d2, by omega, fun z hz => ?_, fun j hj => ?_⟩
  · unfold bgive_M
    have hw := h.words
    refine need_of (by omega) ?_
    rw [if_pos ⟨h.may, by omega⟩, place7 h.may]
    simp only [Int.reduceMul, Int.reduceAdd]
    have hG : giveF img l 480 gb b = (0, l1) := by
      unfold giveF
      rw [if_pos hb, if_pos hu, a1]
    have hA : agiveb_M img l gb 480 b = some (0, l1) := by
      unfold agiveb_M
      exact bind_of ((agive_ok h.vr (by omega) (by omega)).trans (congrArg some hG)) rfl
    rw [hA]
    simp only [Option.bind, if_true, d1]
  · rw [d4]
    by_cases e : z = at_
    · rw [if_pos e, if_pos e]
    · rw [if_neg e, if_neg e, a6, if_neg (by omega)]
  · rw [← a7 j]
    refine mbits_congr ?_
    rw [d4, if_neg (by omega)]
end

structure Hd where
  k : Int
  l : Int
  o : Int
  s : Int
  m : Int
def HdOk (gi : Int) (h : Hd) : Prop := h.m < gi ∧ (h.l ≤ 65536 ∧ h.o ≤ 16 ∧ h.s ≤ 768) ∧ ((h.k = 1 ∧ h.m = 0) ∨ (h.k = 2 ∧ h.s = 0))
structure Mp (gi gb : Int) (img : List Int) (l : List (Int × Int)) (n : Int) (O : Nat → Prop) (h : Hd) (f : Nat → Int) (c : Int) : Prop where
  dk : Dk gi gb img l
  nr : 0 < n ∧ n < gi
  hd : HdOk gi h
  w0 : vget img l (488 + 16 * n) = h.k
  w1 : vget img l (489 + 16 * n) = h.l
  w2 : vget img l (490 + 16 * n) = h.o
  w3 : vget img l (491 + 16 * n) = h.s
  w9 : vget img l (497 + 16 * n) = h.m
  wd : ∀ k : Nat, k < 4 → vget img l (492 + 16 * n + (k : Int)) = f k
  w8 : vget img l (496 + 16 * n) = c
  we : ∀ k : Nat, 4 ≤ k → k < 12 → f k = if c = 0 then 0 else vget img l (484 + 16 * gi + 8 * c + (k : Int))
  rf : ∀ k, k < 12 → 0 ≤ f k ∧ f k < gb
  rc : 0 ≤ c ∧ c < gb
  inj : ∀ j k, j < 12 → k < 12 → f j ≠ 0 → f j = f k → j = k
  fc : ∀ k, k < 12 → c ≠ 0 → f k ≠ c
  bits : ∀ b : Nat, b < 512 → (mbits img l 480 b = true ↔ b = 0 ∨ (∃ k, k < 12 ∧ f k = (b : Int)) ∨ c = (b : Int) ∨ O b)
  od : ∀ b : Nat, O b → 0 < b ∧ (b : Int) < gb ∧ (∀ k, k < 12 → f k ≠ (b : Int)) ∧ c ≠ (b : Int)
section
variable {gi gb : Int} {img : List Int} {l : List (Int × Int)} {n : Int} {O : Nat → Prop} {hd : Hd} {f : Nat → Int} {c : Int}
theorem Mp.iget (h : Mp gi gb img l n O hd f c) : igetM img l 1 gi gb n = (⟨hd.k, hd.l, hd.o, hd.s, f 0, f 1, f 2, f 3, c, hd.m⟩, 0) := by
  have hg := h.dk.g
  have hlen := h.dk.len
  have hw := h.dk.words
  have hnr := h.nr
  have hp := place8_in (n := n) h.dk.may (by omega)
  have e : ifind (img.length : Int) 1 gi gb n = (488 + 16 * n, 0) := by
    unfold ifind
    rw [hp, if_neg (by omega), if_neg (by omega)]
    congr 1
  have hnd : ndAt img l (488 + 16 * n) = ⟨hd.k, hd.l, hd.o, hd.s, f 0, f 1, f 2, f 3, c, hd.m⟩ := by
    unfold ndAt
    have d0 := h.wd 0 (by omega)
    have d1 := h.wd 1 (by omega)
    have d2 := h.wd 2 (by omega)
    have d3 := h.wd 3 (by omega)
    rw [← h.w0, ← h.w1, ← h.w2, ← h.w3, ← h.w9, ← h.w8, ← d0, ← d1, ← d2, ← d3]
    congr 2 <;> omega
  have hR : RightP 1 gi gb ⟨hd.k, hd.l, hd.o, hd.s, f 0, f 1, f 2, f 3, c, hd.m⟩ := by
    have := h.hd
    unfold HdOk at this
    exact ⟨h.dk.may, ⟨(h.rf 0 (by omega)).2, (h.rf 1 (by omega)).2, (h.rf 2 (by omega)).2, (h.rf 3 (by omega)).2, h.rc.2, this.1⟩, this.2.1, this.2.2⟩
  unfold igetM
  rw [e]
  simp only [if_true, hnd]
  rw [if_pos hR]
theorem Mp.own (h : Mp gi gb img l n O hd f c) {w : Int} (hw : 0 ≤ w ∧ w ≤ 100) : bown_M 1 gi gb n w = some (488 + 16 * n + w) := by
  have hnr := h.nr
  have hg := h.dk.g
  have hp := place8_in (n := n) h.dk.may (by omega)
  unfold bown_M
  rw [hp]
  simp only [Option.bind]
  exact need_of (by omega) (by congr 1)
theorem Mp.chain (h : Mp gi gb img l n O hd f c) : bchain_M img l 1 gi gb n = some c := by
  have hg := h.dk.g
  have hrc := h.rc
  unfold bchain_M
  rw [h.own (by omega)]
  simp only [Option.bind]
  rw [show 488 + 16 * n + 8 = 496 + 16 * n by omega, h.w8]
  exact need_of (by omega) rfl
def wordAt (gi : Int) (n c : Int) (k : Nat) : Int := if k < 4 then 492 + 16 * n + (k : Int) else 484 + 16 * gi + 8 * c + (k : Int)
theorem Mp.word (h : Mp gi gb img l n O hd f c) {k : Nat} (hk : k < 12) : bword_M img l 1 gi gb n (k : Int) = some (wordAt gi n c k, if k < 4 then true else !decide (c = 0)) := by
  have hg := h.dk.g
  have hrc := h.rc
  have hnr := h.nr
  unfold bword_M wordAt
  by_cases h4 : k < 4
  · rw [if_neg (by omega), if_pos h4, if_pos h4]
    unfold bdirect_M
    refine bind_of (y := (492 + 16 * n + (k : Int), true)) (need_of (by omega) ?_) rfl
    rw [h.own (by omega)]
    simp only [Option.bind]
    congr 2
    omega
  · rw [if_pos (by omega), if_neg h4, if_neg h4]
    unfold bchained_M
    rw [h.chain]
    have hp := place9_in (n := c) h.dk.may (by omega)
    simp only [Option.bind, hp]
    refine bind_of (y := (484 + 16 * gi + 8 * c + (k : Int), !decide (c = 0))) (need_of (by omega) (need_of (by omega) ?_)) rfl
    congr 2
    omega
theorem Mp.wordIn (h : Mp gi gb img l n O hd f c) {k : Nat} (hk : k < 12) : 488 ≤ wordAt gi n c k ∧ wordAt gi n c k < (img.length : Int) := by
  have hg := h.dk.g
  have hrc := h.rc
  have hnr := h.nr
  have hlen := h.dk.len
  unfold wordAt
  split <;> omega
theorem Mp.wordGet (h : Mp gi gb img l n O hd f c) {k : Nat} (hk : k < 12) (hc : k < 4 ∨ c ≠ 0) : vget img l (wordAt gi n c k) = f k := by
  unfold wordAt
  by_cases h4 : k < 4
  · rw [if_pos h4]
    exact h.wd k h4
  · rw [if_neg h4, h.we k (by omega) hk, if_neg (by omega)]
theorem Mp.at (h : Mp gi gb img l n O hd f c) {k : Nat} (hk : k < 12) : bat_M img l 1 gi gb n (k : Int) = some (f k, 0) := by
  have hg := h.dk.g
  have hrf := h.rf k hk
  have J : bat_J1 img l 1 gi gb n (k : Int) = some (f k, 0) := by
    unfold bat_J1
    rw [h.iget]
    simp only [Option.bind]
    unfold bat_J2
    rw [if_pos rfl, h.word hk]
    simp only [Option.bind]
    by_cases hc : k < 4 ∨ c ≠ 0
    · have ht : (if k < 4 then true else !decide (c = 0)) = true := by
        rcases hc with hc | hc
        · rw [if_pos hc]
        · split
          · rfl
          · simp [hc]
      rw [ht, h.wordGet hk hc, if_pos rfl]
      exact need_of (by omega) (by rw [if_neg (by omega)]; exact need_of (by omega) rfl)
    · have hc0 : c = 0 := by omega
      rw [if_neg (show ¬ k < 4 by omega), hc0]
      have := h.we k (by omega) hk
      rw [if_pos hc0] at this
      rw [this]
      rfl
  unfold bat_M
  rw [if_neg (by omega), if_neg (by omega), J]
def needF (f : Nat → Int) (c : Int) (k : Nat) : Int := if f k = 0 then (if k < 4 ∨ c ≠ 0 then 1 else 2) else 0
theorem Mp.need (h : Mp gi gb img l n O hd f c) {k : Nat} (hk : k < 12) : bneed_M img l 1 gi gb n (k : Int) = some (needF f c k) := by
  unfold bneed_M needF
  rw [h.at hk]
  simp only [Option.bind, if_true]
  by_cases h0 : f k = 0
  · rw [if_pos h0, if_pos h0, h.word hk]
    simp only
    by_cases h4 : k < 4
    · rw [if_pos h4, if_pos rfl, if_pos (Or.inl h4)]
    · rw [if_neg h4]
      by_cases hc : c = 0
      · rw [hc, if_neg (by simp), if_neg (by simp; omega)]
      · rw [if_pos (by simp [hc]), if_pos (Or.inr hc)]
  · rw [if_neg h0, if_neg h0]
end
end Go.Proofs.YtmmclabkkigiaaaDoor
