/- Texts, one behind the other: F6b, F6c, F7a, Sc, A7b. -/
import Derived.Test.YtmmclabkkigiaaaDoorQBN1
set_option linter.unusedVariables false
set_option linter.unusedSimpArgs false
set_option maxRecDepth 20000
namespace Go.Proofs.YtmmclabkkigiaaaDoor
open Go Go.RowKit
set_option linter.unusedSimpArgs false
set_option linter.unusedVariables false

theorem rows_spec {gw gi gb : Int} (B : Nat) (w : World) : Spec Tryd.prog 56 #[(.agg #[(.int .i64 gw), (.int .i64 gi), (.int .i64 gb)])] B w [] (fun v H' => v = (.agg #[(.int .u8 1), (.int .i64 8), (.int .i64 1), (.int .u8 2), (.int .i64 64), (.int .i64 4), (.int .u8 5), (.int .i64 208), (.int .i64 gw), (.int .u8 6), (.int .i64 8), (.int .i64 1), (.int .u8 7), (.int .i64 8), (.int .i64 1), (.int .u8 8), (.int .i64 16), (.int .i64 gi), (.int .u8 9), (.int .i64 8), (.int .i64 gb)]) ∧ H' = []) := by
 refine spec_Q Tryd.func56 rfl fun hs => ?_
 refine W.sr fun K1 hK1 => ?_
 refine zN [(.int .i64 gw), (.int .i64 gi), (.int .i64 gb)] 23 hs fun b4 w2 hs3 => ?_
 refine zN [(.int .u8 0), (.int .i64 0), (.int .i64 0), (.int .u8 0), (.int .i64 0), (.int .i64 0), (.int .u8 0), (.int .i64 0), (.int .i64 0), (.int .u8 0), (.int .i64 0), (.int .i64 0), (.int .u8 0), (.int .i64 0), (.int .i64 0), (.int .u8 0), (.int .i64 0), (.int .i64 0), (.int .u8 0), (.int .i64 0), (.int .i64 0)] 106 hs3 fun b7 w5 hs6 => ?_
 refine zD (hK1 _ _ ?_)
 refine W.sr fun K8 hK8 => ?_
 refine zR 3 ?_
 refine zL ⟨b4, 0, none⟩ (.int .i64 gw) (hs6.cellAt 1 rfl rfl) ?_
 refine zR 4 ?_
 refine zL ⟨b4, 1, none⟩ (.int .i64 gi) (hs6.cellAt 1 rfl rfl) ?_
 refine zR 2 ?_
 refine zL ⟨b4, 2, none⟩ (.int .i64 gb) (hs6.cellAt 1 rfl rfl) ?_
 refine zR 2 ?_
 refine ops_store (off := 0) (cs := [(.int .u8 0), (.int .i64 0), (.int .i64 0), (.int .u8 0), (.int .i64 0), (.int .i64 0), (.int .u8 0), (.int .i64 0), (.int .i64 0), (.int .u8 0), (.int .i64 0), (.int .i64 0), (.int .u8 0), (.int .i64 0), (.int .i64 0), (.int .u8 0), (.int .i64 0), (.int .i64 0), (.int .u8 0), (.int .i64 0), (.int .i64 0)]) (vs := [(.int .u8 1), (.int .i64 8), (.int .i64 1), (.int .u8 2), (.int .i64 64), (.int .i64 4), (.int .u8 5), (.int .i64 208), (.int .i64 gw), (.int .u8 6), (.int .i64 8), (.int .i64 1), (.int .u8 7), (.int .i64 8), (.int .i64 1), (.int .u8 8), (.int .i64 16), (.int .i64 gi), (.int .u8 9), (.int .i64 8), (.int .i64 gb)]) hs6 (by kernel_rfl) (by simp) rfl (fun w9 hs10 => ?_)
 have hs11 : St B w [] w9 [blk b7 (.cells [(.int .u8 1), (.int .i64 8), (.int .i64 1), (.int .u8 2), (.int .i64 64), (.int .i64 4), (.int .u8 5), (.int .i64 208), (.int .i64 gw), (.int .u8 6), (.int .i64 8), (.int .i64 1), (.int .u8 7), (.int .i64 8), (.int .i64 1), (.int .u8 8), (.int .i64 16), (.int .i64 gi), (.int .u8 9), (.int .i64 8), (.int .i64 gb)].toArray 106 (0, 0)), blk b4 (.cells [(.int .i64 gw), (.int .i64 gi), (.int .i64 gb)].toArray 23 (0, 0))] := hs10
 refine zD (hK8 _ _ ?_)
 refine W.ret ?_
 have hs12 := St.tk0 hs11
 refine ret_of (.agg #[(.int .u8 1), (.int .i64 8), (.int .i64 1), (.int .u8 2), (.int .i64 64), (.int .i64 4), (.int .u8 5), (.int .i64 208), (.int .i64 gw), (.int .u8 6), (.int .i64 8), (.int .i64 1), (.int .u8 7), (.int .i64 8), (.int .i64 1), (.int .u8 8), (.int .i64 16), (.int .i64 gi), (.int .u8 9), (.int .i64 8), (.int .i64 gb)]) (results_cell (ad := ⟨b7, 0, none⟩) (cs := [(.int .u8 1), (.int .i64 8), (.int .i64 1), (.int .u8 2), (.int .i64 64), (.int .i64 4), (.int .u8 5), (.int .i64 208), (.int .i64 gw), (.int .u8 6), (.int .i64 8), (.int .i64 1), (.int .u8 7), (.int .i64 8), (.int .i64 1), (.int .u8 8), (.int .i64 16), (.int .i64 gi), (.int .u8 9), (.int .i64 8), (.int .i64 gb)]) rfl (by kernel_rfl) (by kernel_rfl) (cells_sub (hs11.heapAt 0 rfl) rfl)) ⟨_, ⟨rfl, rfl⟩, hs12⟩

theorem lwords_spec {gw gi gb : Int} (B : Nat) (w : World) : Spec Tryd.prog 25 #[(.agg #[(.int .i64 gw), (.int .i64 gi), (.int .i64 gb)])] B w [] (fun v H' => v = .int .i64 (wordsOf gw gi gb) ∧ H' = []) := by
 refine spec_Q Tryd.func25 rfl fun hs => ?_
 refine W.sr fun K1 hK1 => ?_
 refine zN [(.int .i64 gw), (.int .i64 gi), (.int .i64 gb)] 23 hs fun b4 w2 hs3 => ?_
 refine zE 1 (hK1 _ _ ?_)
 refine W.seq fun K5 hK5 => ?_
 refine W.sr fun K6 hK6 => ?_
 refine ops_R (runs_loadAgg (ad := ⟨b4, 0, none⟩) (cs := [(.int .i64 gw), (.int .i64 gi), (.int .i64 gb)]) (by kernel_rfl) (cells_sub (hs3.heapAt 0 rfl) rfl)) ?_
 refine zC00 hs3 (may_spec (gw := gw) (gi := gi) (gb := gb) B _) fun w7 hs9 => ?_
 refine zE 1 (hK6 _ _ ?_)
 refine W.cond (!(decide (May gw gi gb))) (by kernel_rfl) (fun h10 => ?_) (fun h10 => ?_)
 ·
  have h10p : ¬ (May gw gi gb) := of_decide_eq_false (bnot_true h10)
  have hm : ¬ May gw gi gb := h10p
  refine W.sr fun K11 hK11 => ?_
  refine zE 1 (hK11 _ _ ?_)
  refine W.ret (ret_seq ?_)
  have hs12 := St.tk0 hs9
  refine ret_of (.int .i64 0) (by kernel_rfl) ⟨_, ⟨congrArg (Value.int .i64) (by first | contradiction | (simp only [wordsOf, if_pos hm]; omega) | (simp only [wordsOf, if_neg hm]; done)), rfl⟩, hs12⟩
 ·
  have h10p : May gw gi gb := of_decide_eq_true (bnot_false h10)
  have hm : May gw gi gb := h10p
  have hm_ : (1 ≤ gw ∧ gw ≤ 4) ∧ (2 ≤ gi ∧ gi ≤ 64) ∧ (2 ≤ gb ∧ gb ≤ 512) := hm
  refine W.skip ?_
  refine hK5 _ _ ?_
  refine W.seq fun K13 hK13 => ?_
  refine W.sr fun K14 hK14 => ?_
  refine ops_R (runs_loadAgg (ad := ⟨b4, 0, none⟩) (cs := [(.int .i64 gw), (.int .i64 gi), (.int .i64 gb)]) (by kernel_rfl) (cells_sub (hs9.heapAt 0 rfl) rfl)) ?_
  refine zC00 hs9 (rows_spec (gw := gw) (gi := gi) (gb := gb) B _) fun w15 hs17 => ?_
  refine zE 1 (hK14 _ _ ?_)
  refine W.block ?_
  refine W.loop_start ?_
  refine loopAt_round ?_
  refine W.sr fun K18 hK18 => ?_
  refine zE 1 (hK18 _ _ ?_)
  refine W.seq fun K19 hK19 => ?_
  refine W.cond_true true (by kernel_rfl) rfl ?_
  refine W.skip ?_
  refine hK19 _ _ ?_
  refine W.seq fun K20 hK20 => ?_
  refine W.block ?_
  refine W.sr fun K21 hK21 => ?_
  refine zR 1 ?_
  refine zN [(.int .u8 0), (.int .i64 0), (.int .i64 0)] 105 hs17 fun b24 w22 hs23 => ?_
  refine ops_store (off := 0) (cs := [(.int .u8 0), (.int .i64 0), (.int .i64 0)]) (vs := [(.int .u8 1), (.int .i64 8), (.int .i64 1)]) hs23 (by kernel_rfl) (by simp) rfl (fun w25 hs26 => ?_)
  have hs27 : St B w [] w25 [blk b24 (.cells [(.int .u8 1), (.int .i64 8), (.int .i64 1)].toArray 105 (0, 0)), blk b4 (.cells [(.int .i64 gw), (.int .i64 gi), (.int .i64 gb)].toArray 23 (0, 0))] := hs26
  refine zD (hK21 _ _ ?_)
  refine W.region ?_
  refine zR 2 ?_
  refine zL ⟨b24, 1, none⟩ (.int .i64 8) (hs27.cellAt 0 rfl rfl) ?_
  refine zR 1 ?_
  refine zL ⟨b24, 2, none⟩ (.int .i64 1) (hs27.cellAt 0 rfl rfl) ?_
  refine zE 3 ?_
  refine normal_block ?_
  refine hK20 _ _ ?_
  refine W.region ?_
  refine zE 2 ?_
  refine loopAt_next ?_
  refine loopAt_round ?_
  refine W.sr fun K28 hK28 => ?_
  refine zE 1 (hK28 _ _ ?_)
  refine W.seq fun K29 hK29 => ?_
  refine W.cond_true true (by kernel_rfl) rfl ?_
  refine W.skip ?_
  refine hK29 _ _ ?_
  refine W.seq fun K30 hK30 => ?_
  refine W.block ?_
  refine W.sr fun K31 hK31 => ?_
  refine zR 1 ?_
  refine zN [(.int .u8 0), (.int .i64 0), (.int .i64 0)] 105 hs27 fun b34 w32 hs33 => ?_
  refine ops_store (off := 0) (cs := [(.int .u8 0), (.int .i64 0), (.int .i64 0)]) (vs := [(.int .u8 2), (.int .i64 64), (.int .i64 4)]) hs33 (by kernel_rfl) (by simp) rfl (fun w35 hs36 => ?_)
  have hs37 : St B w [] w35 [blk b34 (.cells [(.int .u8 2), (.int .i64 64), (.int .i64 4)].toArray 105 (0, 0)), blk b24 (.cells [(.int .u8 1), (.int .i64 8), (.int .i64 1)].toArray 105 (0, 0)), blk b4 (.cells [(.int .i64 gw), (.int .i64 gi), (.int .i64 gb)].toArray 23 (0, 0))] := hs36
  refine zD (hK31 _ _ ?_)
  refine W.region ?_
  refine zR 2 ?_
  refine zL ⟨b34, 1, none⟩ (.int .i64 64) (hs37.cellAt 0 rfl rfl) ?_
  refine zR 1 ?_
  refine zL ⟨b34, 2, none⟩ (.int .i64 4) (hs37.cellAt 0 rfl rfl) ?_
  refine zE 3 ?_
  refine normal_block ?_
  refine hK30 _ _ ?_
  refine W.region ?_
  refine zE 2 ?_
  refine loopAt_next ?_
  refine loopAt_round ?_
  refine W.sr fun K38 hK38 => ?_
  refine zE 1 (hK38 _ _ ?_)
  refine W.seq fun K39 hK39 => ?_
  refine W.cond_true true (by kernel_rfl) rfl ?_
  refine W.skip ?_
  refine hK39 _ _ ?_
  refine W.seq fun K40 hK40 => ?_
  refine W.block ?_
  refine W.sr fun K41 hK41 => ?_
  refine zR 1 ?_
  refine zN [(.int .u8 0), (.int .i64 0), (.int .i64 0)] 105 hs37 fun b44 w42 hs43 => ?_
  refine ops_store (off := 0) (cs := [(.int .u8 0), (.int .i64 0), (.int .i64 0)]) (vs := [(.int .u8 5), (.int .i64 208), (.int .i64 gw)]) hs43 (by kernel_rfl) (by simp) rfl (fun w45 hs46 => ?_)
  have hs47 : St B w [] w45 [blk b44 (.cells [(.int .u8 5), (.int .i64 208), (.int .i64 gw)].toArray 105 (0, 0)), blk b34 (.cells [(.int .u8 2), (.int .i64 64), (.int .i64 4)].toArray 105 (0, 0)), blk b24 (.cells [(.int .u8 1), (.int .i64 8), (.int .i64 1)].toArray 105 (0, 0)), blk b4 (.cells [(.int .i64 gw), (.int .i64 gi), (.int .i64 gb)].toArray 23 (0, 0))] := hs46
  refine zD (hK41 _ _ ?_)
  refine W.region ?_
  refine zR 2 ?_
  refine zL ⟨b44, 1, none⟩ (.int .i64 208) (hs47.cellAt 0 rfl rfl) ?_
  refine zR 1 ?_
  refine zL ⟨b44, 2, none⟩ (.int .i64 gw) (hs47.cellAt 0 rfl rfl) ?_
  refine zI (208 * gw) (wrap_i64 (by omega) (by omega)) ?_
  refine zI (264 + (208 * gw)) (wrap_i64 (by omega) (by omega)) ?_
  refine zE 1 ?_
  refine normal_block ?_
  refine hK40 _ _ ?_
  refine W.region ?_
  refine zE 2 ?_
  refine loopAt_next ?_
  refine loopAt_round ?_
  refine W.sr fun K48 hK48 => ?_
  refine zE 1 (hK48 _ _ ?_)
  refine W.seq fun K49 hK49 => ?_
  refine W.cond_true true (by kernel_rfl) rfl ?_
  refine W.skip ?_
  refine hK49 _ _ ?_
  refine W.seq fun K50 hK50 => ?_
  refine W.block ?_
  refine W.sr fun K51 hK51 => ?_
  refine zR 1 ?_
  refine zN [(.int .u8 0), (.int .i64 0), (.int .i64 0)] 105 hs47 fun b54 w52 hs53 => ?_
  refine ops_store (off := 0) (cs := [(.int .u8 0), (.int .i64 0), (.int .i64 0)]) (vs := [(.int .u8 6), (.int .i64 8), (.int .i64 1)]) hs53 (by kernel_rfl) (by simp) rfl (fun w55 hs56 => ?_)
  have hs57 : St B w [] w55 [blk b54 (.cells [(.int .u8 6), (.int .i64 8), (.int .i64 1)].toArray 105 (0, 0)), blk b44 (.cells [(.int .u8 5), (.int .i64 208), (.int .i64 gw)].toArray 105 (0, 0)), blk b34 (.cells [(.int .u8 2), (.int .i64 64), (.int .i64 4)].toArray 105 (0, 0)), blk b24 (.cells [(.int .u8 1), (.int .i64 8), (.int .i64 1)].toArray 105 (0, 0)), blk b4 (.cells [(.int .i64 gw), (.int .i64 gi), (.int .i64 gb)].toArray 23 (0, 0))] := hs56
  refine zD (hK51 _ _ ?_)
  refine W.region ?_
  refine zR 2 ?_
  refine zL ⟨b54, 1, none⟩ (.int .i64 8) (hs57.cellAt 0 rfl rfl) ?_
  refine zR 1 ?_
  refine zL ⟨b54, 2, none⟩ (.int .i64 1) (hs57.cellAt 0 rfl rfl) ?_
  refine zR 1 ?_
  refine zI ((264 + (208 * gw)) + 8) (wrap_i64 (by omega) (by omega)) ?_
  refine zE 1 ?_
  refine normal_block ?_
  refine hK50 _ _ ?_
  refine W.region ?_
  refine zE 2 ?_
  refine loopAt_next ?_
  refine loopAt_round ?_
  refine W.sr fun K58 hK58 => ?_
  refine zE 1 (hK58 _ _ ?_)
  refine W.seq fun K59 hK59 => ?_
  refine W.cond_true true (by kernel_rfl) rfl ?_
  refine W.skip ?_
  refine hK59 _ _ ?_
  refine W.seq fun K60 hK60 => ?_
  refine W.block ?_
  refine W.sr fun K61 hK61 => ?_
  refine zR 1 ?_
  refine zN [(.int .u8 0), (.int .i64 0), (.int .i64 0)] 105 hs57 fun b64 w62 hs63 => ?_
  refine ops_store (off := 0) (cs := [(.int .u8 0), (.int .i64 0), (.int .i64 0)]) (vs := [(.int .u8 7), (.int .i64 8), (.int .i64 1)]) hs63 (by kernel_rfl) (by simp) rfl (fun w65 hs66 => ?_)
  have hs67 : St B w [] w65 [blk b64 (.cells [(.int .u8 7), (.int .i64 8), (.int .i64 1)].toArray 105 (0, 0)), blk b54 (.cells [(.int .u8 6), (.int .i64 8), (.int .i64 1)].toArray 105 (0, 0)), blk b44 (.cells [(.int .u8 5), (.int .i64 208), (.int .i64 gw)].toArray 105 (0, 0)), blk b34 (.cells [(.int .u8 2), (.int .i64 64), (.int .i64 4)].toArray 105 (0, 0)), blk b24 (.cells [(.int .u8 1), (.int .i64 8), (.int .i64 1)].toArray 105 (0, 0)), blk b4 (.cells [(.int .i64 gw), (.int .i64 gi), (.int .i64 gb)].toArray 23 (0, 0))] := hs66
  refine zD (hK61 _ _ ?_)
  refine W.region ?_
  refine zR 2 ?_
  refine zL ⟨b64, 1, none⟩ (.int .i64 8) (hs67.cellAt 0 rfl rfl) ?_
  refine zR 1 ?_
  refine zL ⟨b64, 2, none⟩ (.int .i64 1) (hs67.cellAt 0 rfl rfl) ?_
  refine zR 1 ?_
  refine zI (((264 + (208 * gw)) + 8) + 8) (wrap_i64 (by omega) (by omega)) ?_
  refine zE 1 ?_
  refine normal_block ?_
  refine hK60 _ _ ?_
  refine W.region ?_
  refine zE 2 ?_
  refine loopAt_next ?_
  refine loopAt_round ?_
  refine W.sr fun K68 hK68 => ?_
  refine zE 1 (hK68 _ _ ?_)
  refine W.seq fun K69 hK69 => ?_
  refine W.cond_true true (by kernel_rfl) rfl ?_
  refine W.skip ?_
  refine hK69 _ _ ?_
  refine W.seq fun K70 hK70 => ?_
  refine W.block ?_
  refine W.sr fun K71 hK71 => ?_
  refine zR 1 ?_
  refine zN [(.int .u8 0), (.int .i64 0), (.int .i64 0)] 105 hs67 fun b74 w72 hs73 => ?_
  refine ops_store (off := 0) (cs := [(.int .u8 0), (.int .i64 0), (.int .i64 0)]) (vs := [(.int .u8 8), (.int .i64 16), (.int .i64 gi)]) hs73 (by kernel_rfl) (by simp) rfl (fun w75 hs76 => ?_)
  have hs77 : St B w [] w75 [blk b74 (.cells [(.int .u8 8), (.int .i64 16), (.int .i64 gi)].toArray 105 (0, 0)), blk b64 (.cells [(.int .u8 7), (.int .i64 8), (.int .i64 1)].toArray 105 (0, 0)), blk b54 (.cells [(.int .u8 6), (.int .i64 8), (.int .i64 1)].toArray 105 (0, 0)), blk b44 (.cells [(.int .u8 5), (.int .i64 208), (.int .i64 gw)].toArray 105 (0, 0)), blk b34 (.cells [(.int .u8 2), (.int .i64 64), (.int .i64 4)].toArray 105 (0, 0)), blk b24 (.cells [(.int .u8 1), (.int .i64 8), (.int .i64 1)].toArray 105 (0, 0)), blk b4 (.cells [(.int .i64 gw), (.int .i64 gi), (.int .i64 gb)].toArray 23 (0, 0))] := hs76
  refine zD (hK71 _ _ ?_)
  refine W.region ?_
  refine zR 2 ?_
  refine zL ⟨b74, 1, none⟩ (.int .i64 16) (hs77.cellAt 0 rfl rfl) ?_
  refine zR 1 ?_
  refine zL ⟨b74, 2, none⟩ (.int .i64 gi) (hs77.cellAt 0 rfl rfl) ?_
  refine zI (16 * gi) (wrap_i64 (by omega) (by omega)) ?_
  refine zI ((((264 + (208 * gw)) + 8) + 8) + (16 * gi)) (wrap_i64 (by omega) (by omega)) ?_
  refine zE 1 ?_
  refine normal_block ?_
  refine hK70 _ _ ?_
  refine W.region ?_
  refine zE 2 ?_
  refine loopAt_next ?_
  refine loopAt_round ?_
  refine W.sr fun K78 hK78 => ?_
  refine zE 1 (hK78 _ _ ?_)
  refine W.seq fun K79 hK79 => ?_
  refine W.cond_true true (by kernel_rfl) rfl ?_
  refine W.skip ?_
  refine hK79 _ _ ?_
  refine W.seq fun K80 hK80 => ?_
  refine W.block ?_
  refine W.sr fun K81 hK81 => ?_
  refine zR 1 ?_
  refine zN [(.int .u8 0), (.int .i64 0), (.int .i64 0)] 105 hs77 fun b84 w82 hs83 => ?_
  refine ops_store (off := 0) (cs := [(.int .u8 0), (.int .i64 0), (.int .i64 0)]) (vs := [(.int .u8 9), (.int .i64 8), (.int .i64 gb)]) hs83 (by kernel_rfl) (by simp) rfl (fun w85 hs86 => ?_)
  have hs87 : St B w [] w85 [blk b84 (.cells [(.int .u8 9), (.int .i64 8), (.int .i64 gb)].toArray 105 (0, 0)), blk b74 (.cells [(.int .u8 8), (.int .i64 16), (.int .i64 gi)].toArray 105 (0, 0)), blk b64 (.cells [(.int .u8 7), (.int .i64 8), (.int .i64 1)].toArray 105 (0, 0)), blk b54 (.cells [(.int .u8 6), (.int .i64 8), (.int .i64 1)].toArray 105 (0, 0)), blk b44 (.cells [(.int .u8 5), (.int .i64 208), (.int .i64 gw)].toArray 105 (0, 0)), blk b34 (.cells [(.int .u8 2), (.int .i64 64), (.int .i64 4)].toArray 105 (0, 0)), blk b24 (.cells [(.int .u8 1), (.int .i64 8), (.int .i64 1)].toArray 105 (0, 0)), blk b4 (.cells [(.int .i64 gw), (.int .i64 gi), (.int .i64 gb)].toArray 23 (0, 0))] := hs86
  refine zD (hK81 _ _ ?_)
  refine W.region ?_
  refine zR 2 ?_
  refine zL ⟨b84, 1, none⟩ (.int .i64 8) (hs87.cellAt 0 rfl rfl) ?_
  refine zR 1 ?_
  refine zL ⟨b84, 2, none⟩ (.int .i64 gb) (hs87.cellAt 0 rfl rfl) ?_
  refine zI (8 * gb) (wrap_i64 (by omega) (by omega)) ?_
  refine zI (((((264 + (208 * gw)) + 8) + 8) + (16 * gi)) + (8 * gb)) (wrap_i64 (by omega) (by omega)) ?_
  refine zE 1 ?_
  refine normal_block ?_
  refine hK80 _ _ ?_
  refine W.region ?_
  refine zE 2 ?_
  refine loopAt_next ?_
  refine loopAt_round ?_
  refine W.sr fun K88 hK88 => ?_
  refine zE 1 (hK88 _ _ ?_)
  refine W.seq fun K89 hK89 => ?_
  refine W.cond_false false (by kernel_rfl) rfl ?_
  refine W.exit (exit_seq (exit_seq (exit_here ?_)))
  refine hK13 _ _ ?_
  refine W.sr fun K90 hK90 => ?_
  refine zE 2 (hK90 _ _ ?_)
  refine W.ret ?_
  have hs91 := St.tk0 hs87
  refine ret_of (.int .i64 (((((264 + (208 * gw)) + 8) + 8) + (16 * gi)) + (8 * gb))) (by kernel_rfl) ⟨_, ⟨congrArg (Value.int .i64) (by first | contradiction | (simp only [wordsOf, if_pos hm]; omega) | (simp only [wordsOf, if_neg hm]; done)), rfl⟩, hs91⟩

theorem place6_may {gw gi gb n_ : Int} (B : Nat) (w : World) (hm : May gw gi gb) : Spec Tryd.prog 53 #[(.agg #[(.int .i64 gw), (.int .i64 gi), (.int .i64 gb)]), (.int .u8 6), (.int .i64 n_)] B w [] (fun v H' => v = .int .i64 (placeOf 6 gw gi gb n_) ∧ H' = []) := by
 refine spec_Q Tryd.func53 rfl fun hs => ?_
 have hm_ : (1 ≤ gw ∧ gw ≤ 4) ∧ (2 ≤ gi ∧ gi ≤ 64) ∧ (2 ≤ gb ∧ gb ≤ 512) := hm
 refine W.sr fun K1 hK1 => ?_
 refine zN [(.int .i64 gw), (.int .i64 gi), (.int .i64 gb)] 23 hs fun b4 w2 hs3 => ?_
 refine zE 1 (hK1 _ _ ?_)
 refine W.sr fun K5 hK5 => ?_
 refine zE 1 (hK5 _ _ ?_)
 refine W.seq fun K6 hK6 => ?_
 refine W.sr fun K7 hK7 => ?_
 refine ops_R (runs_loadAgg (ad := ⟨b4, 0, none⟩) (cs := [(.int .i64 gw), (.int .i64 gi), (.int .i64 gb)]) (by kernel_rfl) (cells_sub (hs3.heapAt 0 rfl) rfl)) ?_
 refine zC00 hs3 (rows_spec (gw := gw) (gi := gi) (gb := gb) B _) fun w8 hs10 => ?_
 refine zE 1 (hK7 _ _ ?_)
 refine W.block ?_
 refine W.loop_start ?_
 refine loopAt_round ?_
 refine W.sr fun K11 hK11 => ?_
 refine zE 1 (hK11 _ _ ?_)
 refine W.seq fun K12 hK12 => ?_
 refine W.cond_true true (by kernel_rfl) rfl ?_
 refine W.skip ?_
 refine hK12 _ _ ?_
 refine W.seq fun K13 hK13 => ?_
 refine W.block ?_
 refine W.sr fun K14 hK14 => ?_
 refine zR 1 ?_
 refine zN [(.int .u8 0), (.int .i64 0), (.int .i64 0)] 105 hs10 fun b17 w15 hs16 => ?_
 refine ops_store (off := 0) (cs := [(.int .u8 0), (.int .i64 0), (.int .i64 0)]) (vs := [(.int .u8 1), (.int .i64 8), (.int .i64 1)]) hs16 (by kernel_rfl) (by simp) rfl (fun w18 hs19 => ?_)
 have hs20 : St B w [] w18 [blk b17 (.cells [(.int .u8 1), (.int .i64 8), (.int .i64 1)].toArray 105 (0, 0)), blk b4 (.cells [(.int .i64 gw), (.int .i64 gi), (.int .i64 gb)].toArray 23 (0, 0))] := hs19
 refine zD (hK14 _ _ ?_)
 refine W.seq fun K21 hK21 => ?_
 refine W.sr fun K22 hK22 => ?_
 refine zR 1 ?_
 refine zL ⟨b17, 0, none⟩ (.int .u8 1) (hs20.cellAt 0 rfl rfl) ?_
 refine zE 2 (hK22 _ _ ?_)
 refine W.cond_true true (by kernel_rfl) rfl ?_
 refine W.sr fun K23 hK23 => ?_
 refine zR 2 ?_
 refine zL ⟨b17, 1, none⟩ (.int .i64 8) (hs20.cellAt 0 rfl rfl) ?_
 refine zR 1 ?_
 refine zL ⟨b17, 2, none⟩ (.int .i64 1) (hs20.cellAt 0 rfl rfl) ?_
 refine zE 3 (hK23 _ _ ?_)
 refine W.exit (exit_seq (exit_here ?_))
 refine hK13 _ _ ?_
 refine W.region ?_
 refine zE 2 ?_
 refine loopAt_next ?_
 refine loopAt_round ?_
 refine W.sr fun K24 hK24 => ?_
 refine zE 1 (hK24 _ _ ?_)
 refine W.seq fun K25 hK25 => ?_
 refine W.cond_true true (by kernel_rfl) rfl ?_
 refine W.skip ?_
 refine hK25 _ _ ?_
 refine W.seq fun K26 hK26 => ?_
 refine W.block ?_
 refine W.sr fun K27 hK27 => ?_
 refine zR 1 ?_
 refine zN [(.int .u8 0), (.int .i64 0), (.int .i64 0)] 105 hs20 fun b30 w28 hs29 => ?_
 refine ops_store (off := 0) (cs := [(.int .u8 0), (.int .i64 0), (.int .i64 0)]) (vs := [(.int .u8 2), (.int .i64 64), (.int .i64 4)]) hs29 (by kernel_rfl) (by simp) rfl (fun w31 hs32 => ?_)
 have hs33 : St B w [] w31 [blk b30 (.cells [(.int .u8 2), (.int .i64 64), (.int .i64 4)].toArray 105 (0, 0)), blk b17 (.cells [(.int .u8 1), (.int .i64 8), (.int .i64 1)].toArray 105 (0, 0)), blk b4 (.cells [(.int .i64 gw), (.int .i64 gi), (.int .i64 gb)].toArray 23 (0, 0))] := hs32
 refine zD (hK27 _ _ ?_)
 refine W.seq fun K34 hK34 => ?_
 refine W.sr fun K35 hK35 => ?_
 refine zR 1 ?_
 refine zL ⟨b30, 0, none⟩ (.int .u8 2) (hs33.cellAt 0 rfl rfl) ?_
 refine zE 2 (hK35 _ _ ?_)
 refine W.cond_true true (by kernel_rfl) rfl ?_
 refine W.sr fun K36 hK36 => ?_
 refine zR 2 ?_
 refine zL ⟨b30, 1, none⟩ (.int .i64 64) (hs33.cellAt 0 rfl rfl) ?_
 refine zR 1 ?_
 refine zL ⟨b30, 2, none⟩ (.int .i64 4) (hs33.cellAt 0 rfl rfl) ?_
 refine zE 3 (hK36 _ _ ?_)
 refine W.exit (exit_seq (exit_here ?_))
 refine hK26 _ _ ?_
 refine W.region ?_
 refine zE 2 ?_
 refine loopAt_next ?_
 refine loopAt_round ?_
 refine W.sr fun K37 hK37 => ?_
 refine zE 1 (hK37 _ _ ?_)
 refine W.seq fun K38 hK38 => ?_
 refine W.cond_true true (by kernel_rfl) rfl ?_
 refine W.skip ?_
 refine hK38 _ _ ?_
 refine W.seq fun K39 hK39 => ?_
 refine W.block ?_
 refine W.sr fun K40 hK40 => ?_
 refine zR 1 ?_
 refine zN [(.int .u8 0), (.int .i64 0), (.int .i64 0)] 105 hs33 fun b43 w41 hs42 => ?_
 refine ops_store (off := 0) (cs := [(.int .u8 0), (.int .i64 0), (.int .i64 0)]) (vs := [(.int .u8 5), (.int .i64 208), (.int .i64 gw)]) hs42 (by kernel_rfl) (by simp) rfl (fun w44 hs45 => ?_)
 have hs46 : St B w [] w44 [blk b43 (.cells [(.int .u8 5), (.int .i64 208), (.int .i64 gw)].toArray 105 (0, 0)), blk b30 (.cells [(.int .u8 2), (.int .i64 64), (.int .i64 4)].toArray 105 (0, 0)), blk b17 (.cells [(.int .u8 1), (.int .i64 8), (.int .i64 1)].toArray 105 (0, 0)), blk b4 (.cells [(.int .i64 gw), (.int .i64 gi), (.int .i64 gb)].toArray 23 (0, 0))] := hs45
 refine zD (hK40 _ _ ?_)
 refine W.seq fun K47 hK47 => ?_
 refine W.sr fun K48 hK48 => ?_
 refine zR 1 ?_
 refine zL ⟨b43, 0, none⟩ (.int .u8 5) (hs46.cellAt 0 rfl rfl) ?_
 refine zE 2 (hK48 _ _ ?_)
 refine W.cond_true true (by kernel_rfl) rfl ?_
 refine W.sr fun K49 hK49 => ?_
 refine zR 2 ?_
 refine zL ⟨b43, 1, none⟩ (.int .i64 208) (hs46.cellAt 0 rfl rfl) ?_
 refine zR 1 ?_
 refine zL ⟨b43, 2, none⟩ (.int .i64 gw) (hs46.cellAt 0 rfl rfl) ?_
 refine zI (208 * gw) (wrap_i64 (by omega) (by omega)) ?_
 refine zI (264 + (208 * gw)) (wrap_i64 (by omega) (by omega)) ?_
 refine zE 1 (hK49 _ _ ?_)
 refine W.exit (exit_seq (exit_here ?_))
 refine hK39 _ _ ?_
 refine W.region ?_
 refine zE 2 ?_
 refine loopAt_next ?_
 refine loopAt_round ?_
 refine W.sr fun K50 hK50 => ?_
 refine zE 1 (hK50 _ _ ?_)
 refine W.seq fun K51 hK51 => ?_
 refine W.cond_true true (by kernel_rfl) rfl ?_
 refine W.skip ?_
 refine hK51 _ _ ?_
 refine W.seq fun K52 hK52 => ?_
 refine W.block ?_
 refine W.sr fun K53 hK53 => ?_
 refine zR 1 ?_
 refine zN [(.int .u8 0), (.int .i64 0), (.int .i64 0)] 105 hs46 fun b56 w54 hs55 => ?_
 refine ops_store (off := 0) (cs := [(.int .u8 0), (.int .i64 0), (.int .i64 0)]) (vs := [(.int .u8 6), (.int .i64 8), (.int .i64 1)]) hs55 (by kernel_rfl) (by simp) rfl (fun w57 hs58 => ?_)
 have hs59 : St B w [] w57 [blk b56 (.cells [(.int .u8 6), (.int .i64 8), (.int .i64 1)].toArray 105 (0, 0)), blk b43 (.cells [(.int .u8 5), (.int .i64 208), (.int .i64 gw)].toArray 105 (0, 0)), blk b30 (.cells [(.int .u8 2), (.int .i64 64), (.int .i64 4)].toArray 105 (0, 0)), blk b17 (.cells [(.int .u8 1), (.int .i64 8), (.int .i64 1)].toArray 105 (0, 0)), blk b4 (.cells [(.int .i64 gw), (.int .i64 gi), (.int .i64 gb)].toArray 23 (0, 0))] := hs58
 refine zD (hK53 _ _ ?_)
 refine W.seq fun K60 hK60 => ?_
 refine W.sr fun K61 hK61 => ?_
 refine zR 1 ?_
 refine zL ⟨b56, 0, none⟩ (.int .u8 6) (hs59.cellAt 0 rfl rfl) ?_
 refine zE 2 (hK61 _ _ ?_)
 refine W.cond_false false (by kernel_rfl) rfl ?_
 refine W.skip ?_
 refine hK60 _ _ ?_
 refine W.seq fun K62 hK62 => ?_
 refine W.sr fun K63 hK63 => ?_
 refine ops_R (runs_loadAgg (ad := ⟨b4, 0, none⟩) (cs := [(.int .i64 gw), (.int .i64 gi), (.int .i64 gb)]) (by kernel_rfl) (cells_sub (hs59.heapAt 4 rfl) rfl)) ?_
 refine zC00 hs59 (may_spec (gw := gw) (gi := gi) (gb := gb) B _) fun w64 hs66 => ?_
 refine zR 1 ?_
 rcases Bool.eq_false_or_eq_true (decide (May gw gi gb)) with h67 | h67
 ·
  have h67p := of_decide_eq_true h67
  refine zS 28 h67 ?_
  refine zS 27 h67 ?_
  refine zR 2 ?_
  refine zL ⟨b56, 2, none⟩ (.int .i64 1) (hs66.cellAt 0 rfl rfl) ?_
  refine zR 1 ?_
  refine zC00 hs66 (within_spec (n_ := n_) (f_ := 0) (t_ := 0) B _) fun w68 hs70 => ?_
  refine zE 1 (hK63 _ _ ?_)
  refine W.cond (decide (0 ≤ n_ ∧ n_ ≤ 0)) (by kernel_rfl) (fun h71 => ?_) (fun h71 => ?_)
  ·
   have h71p := of_decide_eq_true h71
   refine W.sr fun K72 hK72 => ?_
   refine zR 2 ?_
   refine zL ⟨b56, 1, none⟩ (.int .i64 8) (hs70.cellAt 0 rfl rfl) ?_
   refine zR 1 ?_
   refine zI (8 * n_) (wrap_i64 (by omega) (by omega)) ?_
   refine zI ((264 + (208 * gw)) + (8 * n_)) (wrap_i64 (by omega) (by omega)) ?_
   refine zE 1 (hK72 _ _ ?_)
   refine W.ret (ret_seq (ret_block (ret_seq (ret_seq (ret_block (ret_seq ?_))))))
   have hs73 := St.tk0 hs70
   refine ret_of (.int .i64 ((264 + (208 * gw)) + (8 * n_))) (by kernel_rfl) ⟨_, ⟨congrArg (Value.int .i64) (by first | contradiction | (simp only [placeOf, if_pos hm]; split <;> omega) | (simp only [placeOf, if_neg hm]; done) | (simp only [placeOf, if_pos hm]; omega)), rfl⟩, hs73⟩
  ·
   have h71p := of_decide_eq_false h71
   refine W.skip ?_
   refine hK62 _ _ ?_
   refine W.exit (exit_block (by decide) (exit_seq (exit_seq (exit_here ?_))))
   refine hK6 _ _ ?_
   refine W.sr fun K74 hK74 => ?_
   refine zE 1 (hK74 _ _ ?_)
   refine W.ret ?_
   have hs75 := St.tk0 hs70
   refine ret_of (.int .i64 (-1)) (by kernel_rfl) ⟨_, ⟨congrArg (Value.int .i64) (by first | contradiction | (simp only [placeOf, if_pos hm]; split <;> omega) | (simp only [placeOf, if_neg hm]; done) | (simp only [placeOf, if_pos hm]; omega)), rfl⟩, hs75⟩
 ·
  have h67p := of_decide_eq_false h67
  refine zS 28 h67 ?_
  refine zS 27 h67 ?_
  refine zE 6 (hK63 _ _ ?_)
  refine W.cond_false false (by kernel_rfl) rfl ?_
  refine W.skip ?_
  refine hK62 _ _ ?_
  refine W.exit (exit_block (by decide) (exit_seq (exit_seq (exit_here ?_))))
  refine hK6 _ _ ?_
  refine W.sr fun K76 hK76 => ?_
  refine zE 1 (hK76 _ _ ?_)
  refine W.ret ?_
  have hs77 := St.tk0 hs66
  refine ret_of (.int .i64 (-1)) (by kernel_rfl) ⟨_, ⟨congrArg (Value.int .i64) (by first | contradiction | (simp only [placeOf, if_pos hm]; split <;> omega) | (simp only [placeOf, if_neg hm]; done) | (simp only [placeOf, if_pos hm]; omega)), rfl⟩, hs77⟩

theorem place6_not {gw gi gb n_ : Int} (B : Nat) (w : World) (hm : ¬ May gw gi gb) : Spec Tryd.prog 53 #[(.agg #[(.int .i64 gw), (.int .i64 gi), (.int .i64 gb)]), (.int .u8 6), (.int .i64 n_)] B w [] (fun v H' => v = .int .i64 (placeOf 6 gw gi gb n_) ∧ H' = []) := by
 refine spec_Q Tryd.func53 rfl fun hs => ?_
 refine W.sr fun K1 hK1 => ?_
 refine zN [(.int .i64 gw), (.int .i64 gi), (.int .i64 gb)] 23 hs fun b4 w2 hs3 => ?_
 refine zE 1 (hK1 _ _ ?_)
 refine W.sr fun K5 hK5 => ?_
 refine zE 1 (hK5 _ _ ?_)
 refine W.seq fun K6 hK6 => ?_
 refine W.sr fun K7 hK7 => ?_
 refine ops_R (runs_loadAgg (ad := ⟨b4, 0, none⟩) (cs := [(.int .i64 gw), (.int .i64 gi), (.int .i64 gb)]) (by kernel_rfl) (cells_sub (hs3.heapAt 0 rfl) rfl)) ?_
 refine zC00 hs3 (rows_spec (gw := gw) (gi := gi) (gb := gb) B _) fun w8 hs10 => ?_
 refine zE 1 (hK7 _ _ ?_)
 refine W.block ?_
 refine W.loop_start ?_
 refine loopAt_round ?_
 refine W.sr fun K11 hK11 => ?_
 refine zE 1 (hK11 _ _ ?_)
 refine W.seq fun K12 hK12 => ?_
 refine W.cond_true true (by kernel_rfl) rfl ?_
 refine W.skip ?_
 refine hK12 _ _ ?_
 refine W.seq fun K13 hK13 => ?_
 refine W.block ?_
 refine W.sr fun K14 hK14 => ?_
 refine zR 1 ?_
 refine zN [(.int .u8 0), (.int .i64 0), (.int .i64 0)] 105 hs10 fun b17 w15 hs16 => ?_
 refine ops_store (off := 0) (cs := [(.int .u8 0), (.int .i64 0), (.int .i64 0)]) (vs := [(.int .u8 1), (.int .i64 8), (.int .i64 1)]) hs16 (by kernel_rfl) (by simp) rfl (fun w18 hs19 => ?_)
 have hs20 : St B w [] w18 [blk b17 (.cells [(.int .u8 1), (.int .i64 8), (.int .i64 1)].toArray 105 (0, 0)), blk b4 (.cells [(.int .i64 gw), (.int .i64 gi), (.int .i64 gb)].toArray 23 (0, 0))] := hs19
 refine zD (hK14 _ _ ?_)
 refine W.seq fun K21 hK21 => ?_
 refine W.sr fun K22 hK22 => ?_
 refine zR 1 ?_
 refine zL ⟨b17, 0, none⟩ (.int .u8 1) (hs20.cellAt 0 rfl rfl) ?_
 refine zE 2 (hK22 _ _ ?_)
 refine W.cond_true true (by kernel_rfl) rfl ?_
 refine W.sr fun K23 hK23 => ?_
 refine zR 2 ?_
 refine zL ⟨b17, 1, none⟩ (.int .i64 8) (hs20.cellAt 0 rfl rfl) ?_
 refine zR 1 ?_
 refine zL ⟨b17, 2, none⟩ (.int .i64 1) (hs20.cellAt 0 rfl rfl) ?_
 refine zE 3 (hK23 _ _ ?_)
 refine W.exit (exit_seq (exit_here ?_))
 refine hK13 _ _ ?_
 refine W.region ?_
 refine zE 2 ?_
 refine loopAt_next ?_
 refine loopAt_round ?_
 refine W.sr fun K24 hK24 => ?_
 refine zE 1 (hK24 _ _ ?_)
 refine W.seq fun K25 hK25 => ?_
 refine W.cond_true true (by kernel_rfl) rfl ?_
 refine W.skip ?_
 refine hK25 _ _ ?_
 refine W.seq fun K26 hK26 => ?_
 refine W.block ?_
 refine W.sr fun K27 hK27 => ?_
 refine zR 1 ?_
 refine zN [(.int .u8 0), (.int .i64 0), (.int .i64 0)] 105 hs20 fun b30 w28 hs29 => ?_
 refine ops_store (off := 0) (cs := [(.int .u8 0), (.int .i64 0), (.int .i64 0)]) (vs := [(.int .u8 2), (.int .i64 64), (.int .i64 4)]) hs29 (by kernel_rfl) (by simp) rfl (fun w31 hs32 => ?_)
 have hs33 : St B w [] w31 [blk b30 (.cells [(.int .u8 2), (.int .i64 64), (.int .i64 4)].toArray 105 (0, 0)), blk b17 (.cells [(.int .u8 1), (.int .i64 8), (.int .i64 1)].toArray 105 (0, 0)), blk b4 (.cells [(.int .i64 gw), (.int .i64 gi), (.int .i64 gb)].toArray 23 (0, 0))] := hs32
 refine zD (hK27 _ _ ?_)
 refine W.seq fun K34 hK34 => ?_
 refine W.sr fun K35 hK35 => ?_
 refine zR 1 ?_
 refine zL ⟨b30, 0, none⟩ (.int .u8 2) (hs33.cellAt 0 rfl rfl) ?_
 refine zE 2 (hK35 _ _ ?_)
 refine W.cond_true true (by kernel_rfl) rfl ?_
 refine W.sr fun K36 hK36 => ?_
 refine zR 2 ?_
 refine zL ⟨b30, 1, none⟩ (.int .i64 64) (hs33.cellAt 0 rfl rfl) ?_
 refine zR 1 ?_
 refine zL ⟨b30, 2, none⟩ (.int .i64 4) (hs33.cellAt 0 rfl rfl) ?_
 refine zE 3 (hK36 _ _ ?_)
 refine W.exit (exit_seq (exit_here ?_))
 refine hK26 _ _ ?_
 refine W.region ?_
 refine zE 2 ?_
 refine loopAt_next ?_
 refine loopAt_round ?_
 refine W.sr fun K37 hK37 => ?_
 refine zE 1 (hK37 _ _ ?_)
 refine W.seq fun K38 hK38 => ?_
 refine W.cond_true true (by kernel_rfl) rfl ?_
 refine W.skip ?_
 refine hK38 _ _ ?_
 refine W.seq fun K39 hK39 => ?_
 refine W.block ?_
 refine W.sr fun K40 hK40 => ?_
 refine zR 1 ?_
 refine zN [(.int .u8 0), (.int .i64 0), (.int .i64 0)] 105 hs33 fun b43 w41 hs42 => ?_
 refine ops_store (off := 0) (cs := [(.int .u8 0), (.int .i64 0), (.int .i64 0)]) (vs := [(.int .u8 5), (.int .i64 208), (.int .i64 gw)]) hs42 (by kernel_rfl) (by simp) rfl (fun w44 hs45 => ?_)
 have hs46 : St B w [] w44 [blk b43 (.cells [(.int .u8 5), (.int .i64 208), (.int .i64 gw)].toArray 105 (0, 0)), blk b30 (.cells [(.int .u8 2), (.int .i64 64), (.int .i64 4)].toArray 105 (0, 0)), blk b17 (.cells [(.int .u8 1), (.int .i64 8), (.int .i64 1)].toArray 105 (0, 0)), blk b4 (.cells [(.int .i64 gw), (.int .i64 gi), (.int .i64 gb)].toArray 23 (0, 0))] := hs45
 refine zD (hK40 _ _ ?_)
 refine W.seq fun K47 hK47 => ?_
 refine W.sr fun K48 hK48 => ?_
 refine zR 1 ?_
 refine zL ⟨b43, 0, none⟩ (.int .u8 5) (hs46.cellAt 0 rfl rfl) ?_
 refine zE 2 (hK48 _ _ ?_)
 refine W.cond_true true (by kernel_rfl) rfl ?_
 refine W.sr fun K49 hK49 => ?_
 refine zR 2 ?_
 refine zL ⟨b43, 1, none⟩ (.int .i64 208) (hs46.cellAt 0 rfl rfl) ?_
 refine zR 1 ?_
 refine zL ⟨b43, 2, none⟩ (.int .i64 gw) (hs46.cellAt 0 rfl rfl) ?_
 refine ops_val (v := .int .i64 (IntKind.i64.wrap (208 * gw))) (v' := .int .i64 (IntKind.i64.wrap (208 * gw))) (by kernel_rfl) rfl ?_
 refine ops_val (v := .int .i64 (IntKind.i64.wrap (264 + (IntKind.i64.wrap (208 * gw))))) (v' := .int .i64 (IntKind.i64.wrap (264 + (IntKind.i64.wrap (208 * gw))))) (by kernel_rfl) rfl ?_
 refine zE 1 (hK49 _ _ ?_)
 refine W.exit (exit_seq (exit_here ?_))
 refine hK39 _ _ ?_
 refine W.region ?_
 refine zE 2 ?_
 refine loopAt_next ?_
 refine loopAt_round ?_
 refine W.sr fun K50 hK50 => ?_
 refine zE 1 (hK50 _ _ ?_)
 refine W.seq fun K51 hK51 => ?_
 refine W.cond_true true (by kernel_rfl) rfl ?_
 refine W.skip ?_
 refine hK51 _ _ ?_
 refine W.seq fun K52 hK52 => ?_
 refine W.block ?_
 refine W.sr fun K53 hK53 => ?_
 refine zR 1 ?_
 refine zN [(.int .u8 0), (.int .i64 0), (.int .i64 0)] 105 hs46 fun b56 w54 hs55 => ?_
 refine ops_store (off := 0) (cs := [(.int .u8 0), (.int .i64 0), (.int .i64 0)]) (vs := [(.int .u8 6), (.int .i64 8), (.int .i64 1)]) hs55 (by kernel_rfl) (by simp) rfl (fun w57 hs58 => ?_)
 have hs59 : St B w [] w57 [blk b56 (.cells [(.int .u8 6), (.int .i64 8), (.int .i64 1)].toArray 105 (0, 0)), blk b43 (.cells [(.int .u8 5), (.int .i64 208), (.int .i64 gw)].toArray 105 (0, 0)), blk b30 (.cells [(.int .u8 2), (.int .i64 64), (.int .i64 4)].toArray 105 (0, 0)), blk b17 (.cells [(.int .u8 1), (.int .i64 8), (.int .i64 1)].toArray 105 (0, 0)), blk b4 (.cells [(.int .i64 gw), (.int .i64 gi), (.int .i64 gb)].toArray 23 (0, 0))] := hs58
 refine zD (hK53 _ _ ?_)
 refine W.seq fun K60 hK60 => ?_
 refine W.sr fun K61 hK61 => ?_
 refine zR 1 ?_
 refine zL ⟨b56, 0, none⟩ (.int .u8 6) (hs59.cellAt 0 rfl rfl) ?_
 refine zE 2 (hK61 _ _ ?_)
 refine W.cond_false false (by kernel_rfl) rfl ?_
 refine W.skip ?_
 refine hK60 _ _ ?_
 refine W.seq fun K62 hK62 => ?_
 refine W.sr fun K63 hK63 => ?_
 refine ops_R (runs_loadAgg (ad := ⟨b4, 0, none⟩) (cs := [(.int .i64 gw), (.int .i64 gi), (.int .i64 gb)]) (by kernel_rfl) (cells_sub (hs59.heapAt 4 rfl) rfl)) ?_
 refine zC00 hs59 (may_spec (gw := gw) (gi := gi) (gb := gb) B _) fun w64 hs66 => ?_
 refine zR 1 ?_
 rcases Bool.eq_false_or_eq_true (decide (May gw gi gb)) with h67 | h67
 ·
  have h67p := of_decide_eq_true h67
  refine zS 28 h67 ?_
  refine zS 27 h67 ?_
  refine zR 2 ?_
  refine zL ⟨b56, 2, none⟩ (.int .i64 1) (hs66.cellAt 0 rfl rfl) ?_
  refine zR 1 ?_
  refine zC00 hs66 (within_spec (n_ := n_) (f_ := 0) (t_ := 0) B _) fun w68 hs70 => ?_
  refine zE 1 (hK63 _ _ ?_)
  refine W.cond (decide (0 ≤ n_ ∧ n_ ≤ 0)) (by kernel_rfl) (fun h71 => ?_) (fun h71 => ?_)
  ·
   have h71p := of_decide_eq_true h71
   refine W.sr fun K72 hK72 => ?_
   refine zR 2 ?_
   refine zL ⟨b56, 1, none⟩ (.int .i64 8) (hs70.cellAt 0 rfl rfl) ?_
   refine zR 1 ?_
   refine ops_val (v := .int .i64 (IntKind.i64.wrap (8 * n_))) (v' := .int .i64 (IntKind.i64.wrap (8 * n_))) (by kernel_rfl) rfl ?_
   refine ops_val (v := .int .i64 (IntKind.i64.wrap ((IntKind.i64.wrap (264 + (IntKind.i64.wrap (208 * gw)))) + (IntKind.i64.wrap (8 * n_))))) (v' := .int .i64 (IntKind.i64.wrap ((IntKind.i64.wrap (264 + (IntKind.i64.wrap (208 * gw)))) + (IntKind.i64.wrap (8 * n_))))) (by kernel_rfl) rfl ?_
   refine zE 1 (hK72 _ _ ?_)
   refine W.ret (ret_seq (ret_block (ret_seq (ret_seq (ret_block (ret_seq ?_))))))
   have hs73 := St.tk0 hs70
   refine ret_of (.int .i64 (IntKind.i64.wrap ((IntKind.i64.wrap (264 + (IntKind.i64.wrap (208 * gw)))) + (IntKind.i64.wrap (8 * n_))))) (by kernel_rfl) ⟨_, ⟨congrArg (Value.int .i64) (by first | contradiction | (simp only [placeOf, if_pos hm]; split <;> omega) | (simp only [placeOf, if_neg hm]; done) | (simp only [placeOf, if_pos hm]; omega)), rfl⟩, hs73⟩
  ·
   have h71p := of_decide_eq_false h71
   refine W.skip ?_
   refine hK62 _ _ ?_
   refine W.exit (exit_block (by decide) (exit_seq (exit_seq (exit_here ?_))))
   refine hK6 _ _ ?_
   refine W.sr fun K74 hK74 => ?_
   refine zE 1 (hK74 _ _ ?_)
   refine W.ret ?_
   have hs75 := St.tk0 hs70
   refine ret_of (.int .i64 (-1)) (by kernel_rfl) ⟨_, ⟨congrArg (Value.int .i64) (by first | contradiction | (simp only [placeOf, if_pos hm]; split <;> omega) | (simp only [placeOf, if_neg hm]; done) | (simp only [placeOf, if_pos hm]; omega)), rfl⟩, hs75⟩
 ·
  have h67p := of_decide_eq_false h67
  refine zS 28 h67 ?_
  refine zS 27 h67 ?_
  refine zE 6 (hK63 _ _ ?_)
  refine W.cond_false false (by kernel_rfl) rfl ?_
  refine W.skip ?_
  refine hK62 _ _ ?_
  refine W.exit (exit_block (by decide) (exit_seq (exit_seq (exit_here ?_))))
  refine hK6 _ _ ?_
  refine W.sr fun K76 hK76 => ?_
  refine zE 1 (hK76 _ _ ?_)
  refine W.ret ?_
  have hs77 := St.tk0 hs66
  refine ret_of (.int .i64 (-1)) (by kernel_rfl) ⟨_, ⟨congrArg (Value.int .i64) (by first | contradiction | (simp only [placeOf, if_pos hm]; split <;> omega) | (simp only [placeOf, if_neg hm]; done) | (simp only [placeOf, if_pos hm]; omega)), rfl⟩, hs77⟩

theorem place6_spec {gw gi gb n_ : Int} (B : Nat) (w : World) : Spec Tryd.prog 53 #[(.agg #[(.int .i64 gw), (.int .i64 gi), (.int .i64 gb)]), (.int .u8 6), (.int .i64 n_)] B w [] (fun v H' => v = .int .i64 (placeOf 6 gw gi gb n_) ∧ H' = []) := by
 by_cases hm : May gw gi gb
 · exact place6_may B w hm
 · exact place6_not B w hm

theorem place7_may {gw gi gb n_ : Int} (B : Nat) (w : World) (hm : May gw gi gb) : Spec Tryd.prog 53 #[(.agg #[(.int .i64 gw), (.int .i64 gi), (.int .i64 gb)]), (.int .u8 7), (.int .i64 n_)] B w [] (fun v H' => v = .int .i64 (placeOf 7 gw gi gb n_) ∧ H' = []) := by
 refine spec_Q Tryd.func53 rfl fun hs => ?_
 have hm_ : (1 ≤ gw ∧ gw ≤ 4) ∧ (2 ≤ gi ∧ gi ≤ 64) ∧ (2 ≤ gb ∧ gb ≤ 512) := hm
 refine W.sr fun K1 hK1 => ?_
 refine zN [(.int .i64 gw), (.int .i64 gi), (.int .i64 gb)] 23 hs fun b4 w2 hs3 => ?_
 refine zE 1 (hK1 _ _ ?_)
 refine W.sr fun K5 hK5 => ?_
 refine zE 1 (hK5 _ _ ?_)
 refine W.seq fun K6 hK6 => ?_
 refine W.sr fun K7 hK7 => ?_
 refine ops_R (runs_loadAgg (ad := ⟨b4, 0, none⟩) (cs := [(.int .i64 gw), (.int .i64 gi), (.int .i64 gb)]) (by kernel_rfl) (cells_sub (hs3.heapAt 0 rfl) rfl)) ?_
 refine zC00 hs3 (rows_spec (gw := gw) (gi := gi) (gb := gb) B _) fun w8 hs10 => ?_
 refine zE 1 (hK7 _ _ ?_)
 refine W.block ?_
 refine W.loop_start ?_
 refine loopAt_round ?_
 refine W.sr fun K11 hK11 => ?_
 refine zE 1 (hK11 _ _ ?_)
 refine W.seq fun K12 hK12 => ?_
 refine W.cond_true true (by kernel_rfl) rfl ?_
 refine W.skip ?_
 refine hK12 _ _ ?_
 refine W.seq fun K13 hK13 => ?_
 refine W.block ?_
 refine W.sr fun K14 hK14 => ?_
 refine zR 1 ?_
 refine zN [(.int .u8 0), (.int .i64 0), (.int .i64 0)] 105 hs10 fun b17 w15 hs16 => ?_
 refine ops_store (off := 0) (cs := [(.int .u8 0), (.int .i64 0), (.int .i64 0)]) (vs := [(.int .u8 1), (.int .i64 8), (.int .i64 1)]) hs16 (by kernel_rfl) (by simp) rfl (fun w18 hs19 => ?_)
 have hs20 : St B w [] w18 [blk b17 (.cells [(.int .u8 1), (.int .i64 8), (.int .i64 1)].toArray 105 (0, 0)), blk b4 (.cells [(.int .i64 gw), (.int .i64 gi), (.int .i64 gb)].toArray 23 (0, 0))] := hs19
 refine zD (hK14 _ _ ?_)
 refine W.seq fun K21 hK21 => ?_
 refine W.sr fun K22 hK22 => ?_
 refine zR 1 ?_
 refine zL ⟨b17, 0, none⟩ (.int .u8 1) (hs20.cellAt 0 rfl rfl) ?_
 refine zE 2 (hK22 _ _ ?_)
 refine W.cond_true true (by kernel_rfl) rfl ?_
 refine W.sr fun K23 hK23 => ?_
 refine zR 2 ?_
 refine zL ⟨b17, 1, none⟩ (.int .i64 8) (hs20.cellAt 0 rfl rfl) ?_
 refine zR 1 ?_
 refine zL ⟨b17, 2, none⟩ (.int .i64 1) (hs20.cellAt 0 rfl rfl) ?_
 refine zE 3 (hK23 _ _ ?_)
 refine W.exit (exit_seq (exit_here ?_))
 refine hK13 _ _ ?_
 refine W.region ?_
 refine zE 2 ?_
 refine loopAt_next ?_
 refine loopAt_round ?_
 refine W.sr fun K24 hK24 => ?_
 refine zE 1 (hK24 _ _ ?_)
 refine W.seq fun K25 hK25 => ?_
 refine W.cond_true true (by kernel_rfl) rfl ?_
 refine W.skip ?_
 refine hK25 _ _ ?_
 refine W.seq fun K26 hK26 => ?_
 refine W.block ?_
 refine W.sr fun K27 hK27 => ?_
 refine zR 1 ?_
 refine zN [(.int .u8 0), (.int .i64 0), (.int .i64 0)] 105 hs20 fun b30 w28 hs29 => ?_
 refine ops_store (off := 0) (cs := [(.int .u8 0), (.int .i64 0), (.int .i64 0)]) (vs := [(.int .u8 2), (.int .i64 64), (.int .i64 4)]) hs29 (by kernel_rfl) (by simp) rfl (fun w31 hs32 => ?_)
 have hs33 : St B w [] w31 [blk b30 (.cells [(.int .u8 2), (.int .i64 64), (.int .i64 4)].toArray 105 (0, 0)), blk b17 (.cells [(.int .u8 1), (.int .i64 8), (.int .i64 1)].toArray 105 (0, 0)), blk b4 (.cells [(.int .i64 gw), (.int .i64 gi), (.int .i64 gb)].toArray 23 (0, 0))] := hs32
 refine zD (hK27 _ _ ?_)
 refine W.seq fun K34 hK34 => ?_
 refine W.sr fun K35 hK35 => ?_
 refine zR 1 ?_
 refine zL ⟨b30, 0, none⟩ (.int .u8 2) (hs33.cellAt 0 rfl rfl) ?_
 refine zE 2 (hK35 _ _ ?_)
 refine W.cond_true true (by kernel_rfl) rfl ?_
 refine W.sr fun K36 hK36 => ?_
 refine zR 2 ?_
 refine zL ⟨b30, 1, none⟩ (.int .i64 64) (hs33.cellAt 0 rfl rfl) ?_
 refine zR 1 ?_
 refine zL ⟨b30, 2, none⟩ (.int .i64 4) (hs33.cellAt 0 rfl rfl) ?_
 refine zE 3 (hK36 _ _ ?_)
 refine W.exit (exit_seq (exit_here ?_))
 refine hK26 _ _ ?_
 refine W.region ?_
 refine zE 2 ?_
 refine loopAt_next ?_
 refine loopAt_round ?_
 refine W.sr fun K37 hK37 => ?_
 refine zE 1 (hK37 _ _ ?_)
 refine W.seq fun K38 hK38 => ?_
 refine W.cond_true true (by kernel_rfl) rfl ?_
 refine W.skip ?_
 refine hK38 _ _ ?_
 refine W.seq fun K39 hK39 => ?_
 refine W.block ?_
 refine W.sr fun K40 hK40 => ?_
 refine zR 1 ?_
 refine zN [(.int .u8 0), (.int .i64 0), (.int .i64 0)] 105 hs33 fun b43 w41 hs42 => ?_
 refine ops_store (off := 0) (cs := [(.int .u8 0), (.int .i64 0), (.int .i64 0)]) (vs := [(.int .u8 5), (.int .i64 208), (.int .i64 gw)]) hs42 (by kernel_rfl) (by simp) rfl (fun w44 hs45 => ?_)
 have hs46 : St B w [] w44 [blk b43 (.cells [(.int .u8 5), (.int .i64 208), (.int .i64 gw)].toArray 105 (0, 0)), blk b30 (.cells [(.int .u8 2), (.int .i64 64), (.int .i64 4)].toArray 105 (0, 0)), blk b17 (.cells [(.int .u8 1), (.int .i64 8), (.int .i64 1)].toArray 105 (0, 0)), blk b4 (.cells [(.int .i64 gw), (.int .i64 gi), (.int .i64 gb)].toArray 23 (0, 0))] := hs45
 refine zD (hK40 _ _ ?_)
 refine W.seq fun K47 hK47 => ?_
 refine W.sr fun K48 hK48 => ?_
 refine zR 1 ?_
 refine zL ⟨b43, 0, none⟩ (.int .u8 5) (hs46.cellAt 0 rfl rfl) ?_
 refine zE 2 (hK48 _ _ ?_)
 refine W.cond_true true (by kernel_rfl) rfl ?_
 refine W.sr fun K49 hK49 => ?_
 refine zR 2 ?_
 refine zL ⟨b43, 1, none⟩ (.int .i64 208) (hs46.cellAt 0 rfl rfl) ?_
 refine zR 1 ?_
 refine zL ⟨b43, 2, none⟩ (.int .i64 gw) (hs46.cellAt 0 rfl rfl) ?_
 refine zI (208 * gw) (wrap_i64 (by omega) (by omega)) ?_
 refine zI (264 + (208 * gw)) (wrap_i64 (by omega) (by omega)) ?_
 refine zE 1 (hK49 _ _ ?_)
 refine W.exit (exit_seq (exit_here ?_))
 refine hK39 _ _ ?_
 refine W.region ?_
 refine zE 2 ?_
 refine loopAt_next ?_
 refine loopAt_round ?_
 refine W.sr fun K50 hK50 => ?_
 refine zE 1 (hK50 _ _ ?_)
 refine W.seq fun K51 hK51 => ?_
 refine W.cond_true true (by kernel_rfl) rfl ?_
 refine W.skip ?_
 refine hK51 _ _ ?_
 refine W.seq fun K52 hK52 => ?_
 refine W.block ?_
 refine W.sr fun K53 hK53 => ?_
 refine zR 1 ?_
 refine zN [(.int .u8 0), (.int .i64 0), (.int .i64 0)] 105 hs46 fun b56 w54 hs55 => ?_
 refine ops_store (off := 0) (cs := [(.int .u8 0), (.int .i64 0), (.int .i64 0)]) (vs := [(.int .u8 6), (.int .i64 8), (.int .i64 1)]) hs55 (by kernel_rfl) (by simp) rfl (fun w57 hs58 => ?_)
 have hs59 : St B w [] w57 [blk b56 (.cells [(.int .u8 6), (.int .i64 8), (.int .i64 1)].toArray 105 (0, 0)), blk b43 (.cells [(.int .u8 5), (.int .i64 208), (.int .i64 gw)].toArray 105 (0, 0)), blk b30 (.cells [(.int .u8 2), (.int .i64 64), (.int .i64 4)].toArray 105 (0, 0)), blk b17 (.cells [(.int .u8 1), (.int .i64 8), (.int .i64 1)].toArray 105 (0, 0)), blk b4 (.cells [(.int .i64 gw), (.int .i64 gi), (.int .i64 gb)].toArray 23 (0, 0))] := hs58
 refine zD (hK53 _ _ ?_)
 refine W.seq fun K60 hK60 => ?_
 refine W.sr fun K61 hK61 => ?_
 refine zR 1 ?_
 refine zL ⟨b56, 0, none⟩ (.int .u8 6) (hs59.cellAt 0 rfl rfl) ?_
 refine zE 2 (hK61 _ _ ?_)
 refine W.cond_true true (by kernel_rfl) rfl ?_
 refine W.sr fun K62 hK62 => ?_
 refine zR 2 ?_
 refine zL ⟨b56, 1, none⟩ (.int .i64 8) (hs59.cellAt 0 rfl rfl) ?_
 refine zR 1 ?_
 refine zL ⟨b56, 2, none⟩ (.int .i64 1) (hs59.cellAt 0 rfl rfl) ?_
 refine zR 1 ?_
 refine zI ((264 + (208 * gw)) + 8) (wrap_i64 (by omega) (by omega)) ?_
 refine zE 1 (hK62 _ _ ?_)
 refine W.exit (exit_seq (exit_here ?_))
 refine hK52 _ _ ?_
 refine W.region ?_
 refine zE 2 ?_
 refine loopAt_next ?_
 refine loopAt_round ?_
 refine W.sr fun K63 hK63 => ?_
 refine zE 1 (hK63 _ _ ?_)
 refine W.seq fun K64 hK64 => ?_
 refine W.cond_true true (by kernel_rfl) rfl ?_
 refine W.skip ?_
 refine hK64 _ _ ?_
 refine W.seq fun K65 hK65 => ?_
 refine W.block ?_
 refine W.sr fun K66 hK66 => ?_
 refine zR 1 ?_
 refine zN [(.int .u8 0), (.int .i64 0), (.int .i64 0)] 105 hs59 fun b69 w67 hs68 => ?_
 refine ops_store (off := 0) (cs := [(.int .u8 0), (.int .i64 0), (.int .i64 0)]) (vs := [(.int .u8 7), (.int .i64 8), (.int .i64 1)]) hs68 (by kernel_rfl) (by simp) rfl (fun w70 hs71 => ?_)
 have hs72 : St B w [] w70 [blk b69 (.cells [(.int .u8 7), (.int .i64 8), (.int .i64 1)].toArray 105 (0, 0)), blk b56 (.cells [(.int .u8 6), (.int .i64 8), (.int .i64 1)].toArray 105 (0, 0)), blk b43 (.cells [(.int .u8 5), (.int .i64 208), (.int .i64 gw)].toArray 105 (0, 0)), blk b30 (.cells [(.int .u8 2), (.int .i64 64), (.int .i64 4)].toArray 105 (0, 0)), blk b17 (.cells [(.int .u8 1), (.int .i64 8), (.int .i64 1)].toArray 105 (0, 0)), blk b4 (.cells [(.int .i64 gw), (.int .i64 gi), (.int .i64 gb)].toArray 23 (0, 0))] := hs71
 refine zD (hK66 _ _ ?_)
 refine W.seq fun K73 hK73 => ?_
 refine W.sr fun K74 hK74 => ?_
 refine zR 1 ?_
 refine zL ⟨b69, 0, none⟩ (.int .u8 7) (hs72.cellAt 0 rfl rfl) ?_
 refine zE 2 (hK74 _ _ ?_)
 refine W.cond_false false (by kernel_rfl) rfl ?_
 refine W.skip ?_
 refine hK73 _ _ ?_
 refine W.seq fun K75 hK75 => ?_
 refine W.sr fun K76 hK76 => ?_
 refine ops_R (runs_loadAgg (ad := ⟨b4, 0, none⟩) (cs := [(.int .i64 gw), (.int .i64 gi), (.int .i64 gb)]) (by kernel_rfl) (cells_sub (hs72.heapAt 5 rfl) rfl)) ?_
 refine zC00 hs72 (may_spec (gw := gw) (gi := gi) (gb := gb) B _) fun w77 hs79 => ?_
 refine zR 1 ?_
 rcases Bool.eq_false_or_eq_true (decide (May gw gi gb)) with h80 | h80
 ·
  have h80p := of_decide_eq_true h80
  refine zS 28 h80 ?_
  refine zS 27 h80 ?_
  refine zR 2 ?_
  refine zL ⟨b69, 2, none⟩ (.int .i64 1) (hs79.cellAt 0 rfl rfl) ?_
  refine zR 1 ?_
  refine zC00 hs79 (within_spec (n_ := n_) (f_ := 0) (t_ := 0) B _) fun w81 hs83 => ?_
  refine zE 1 (hK76 _ _ ?_)
  refine W.cond (decide (0 ≤ n_ ∧ n_ ≤ 0)) (by kernel_rfl) (fun h84 => ?_) (fun h84 => ?_)
  ·
   have h84p := of_decide_eq_true h84
   refine W.sr fun K85 hK85 => ?_
   refine zR 2 ?_
   refine zL ⟨b69, 1, none⟩ (.int .i64 8) (hs83.cellAt 0 rfl rfl) ?_
   refine zR 1 ?_
   refine zI (8 * n_) (wrap_i64 (by omega) (by omega)) ?_
   refine zI (((264 + (208 * gw)) + 8) + (8 * n_)) (wrap_i64 (by omega) (by omega)) ?_
   refine zE 1 (hK85 _ _ ?_)
   refine W.ret (ret_seq (ret_block (ret_seq (ret_seq (ret_block (ret_seq ?_))))))
   have hs86 := St.tk0 hs83
   refine ret_of (.int .i64 (((264 + (208 * gw)) + 8) + (8 * n_))) (by kernel_rfl) ⟨_, ⟨congrArg (Value.int .i64) (by first | contradiction | (simp only [placeOf, if_pos hm]; split <;> omega) | (simp only [placeOf, if_neg hm]; done) | (simp only [placeOf, if_pos hm]; omega)), rfl⟩, hs86⟩
  ·
   have h84p := of_decide_eq_false h84
   refine W.skip ?_
   refine hK75 _ _ ?_
   refine W.exit (exit_block (by decide) (exit_seq (exit_seq (exit_here ?_))))
   refine hK6 _ _ ?_
   refine W.sr fun K87 hK87 => ?_
   refine zE 1 (hK87 _ _ ?_)
   refine W.ret ?_
   have hs88 := St.tk0 hs83
   refine ret_of (.int .i64 (-1)) (by kernel_rfl) ⟨_, ⟨congrArg (Value.int .i64) (by first | contradiction | (simp only [placeOf, if_pos hm]; split <;> omega) | (simp only [placeOf, if_neg hm]; done) | (simp only [placeOf, if_pos hm]; omega)), rfl⟩, hs88⟩
 ·
  have h80p := of_decide_eq_false h80
  refine zS 28 h80 ?_
  refine zS 27 h80 ?_
  refine zE 6 (hK76 _ _ ?_)
  refine W.cond_false false (by kernel_rfl) rfl ?_
  refine W.skip ?_
  refine hK75 _ _ ?_
  refine W.exit (exit_block (by decide) (exit_seq (exit_seq (exit_here ?_))))
  refine hK6 _ _ ?_
  refine W.sr fun K89 hK89 => ?_
  refine zE 1 (hK89 _ _ ?_)
  refine W.ret ?_
  have hs90 := St.tk0 hs79
  refine ret_of (.int .i64 (-1)) (by kernel_rfl) ⟨_, ⟨congrArg (Value.int .i64) (by first | contradiction | (simp only [placeOf, if_pos hm]; split <;> omega) | (simp only [placeOf, if_neg hm]; done) | (simp only [placeOf, if_pos hm]; omega)), rfl⟩, hs90⟩

theorem place7_not {gw gi gb n_ : Int} (B : Nat) (w : World) (hm : ¬ May gw gi gb) : Spec Tryd.prog 53 #[(.agg #[(.int .i64 gw), (.int .i64 gi), (.int .i64 gb)]), (.int .u8 7), (.int .i64 n_)] B w [] (fun v H' => v = .int .i64 (placeOf 7 gw gi gb n_) ∧ H' = []) := by
 refine spec_Q Tryd.func53 rfl fun hs => ?_
 refine W.sr fun K1 hK1 => ?_
 refine zN [(.int .i64 gw), (.int .i64 gi), (.int .i64 gb)] 23 hs fun b4 w2 hs3 => ?_
 refine zE 1 (hK1 _ _ ?_)
 refine W.sr fun K5 hK5 => ?_
 refine zE 1 (hK5 _ _ ?_)
 refine W.seq fun K6 hK6 => ?_
 refine W.sr fun K7 hK7 => ?_
 refine ops_R (runs_loadAgg (ad := ⟨b4, 0, none⟩) (cs := [(.int .i64 gw), (.int .i64 gi), (.int .i64 gb)]) (by kernel_rfl) (cells_sub (hs3.heapAt 0 rfl) rfl)) ?_
 refine zC00 hs3 (rows_spec (gw := gw) (gi := gi) (gb := gb) B _) fun w8 hs10 => ?_
 refine zE 1 (hK7 _ _ ?_)
 refine W.block ?_
 refine W.loop_start ?_
 refine loopAt_round ?_
 refine W.sr fun K11 hK11 => ?_
 refine zE 1 (hK11 _ _ ?_)
 refine W.seq fun K12 hK12 => ?_
 refine W.cond_true true (by kernel_rfl) rfl ?_
 refine W.skip ?_
 refine hK12 _ _ ?_
 refine W.seq fun K13 hK13 => ?_
 refine W.block ?_
 refine W.sr fun K14 hK14 => ?_
 refine zR 1 ?_
 refine zN [(.int .u8 0), (.int .i64 0), (.int .i64 0)] 105 hs10 fun b17 w15 hs16 => ?_
 refine ops_store (off := 0) (cs := [(.int .u8 0), (.int .i64 0), (.int .i64 0)]) (vs := [(.int .u8 1), (.int .i64 8), (.int .i64 1)]) hs16 (by kernel_rfl) (by simp) rfl (fun w18 hs19 => ?_)
 have hs20 : St B w [] w18 [blk b17 (.cells [(.int .u8 1), (.int .i64 8), (.int .i64 1)].toArray 105 (0, 0)), blk b4 (.cells [(.int .i64 gw), (.int .i64 gi), (.int .i64 gb)].toArray 23 (0, 0))] := hs19
 refine zD (hK14 _ _ ?_)
 refine W.seq fun K21 hK21 => ?_
 refine W.sr fun K22 hK22 => ?_
 refine zR 1 ?_
 refine zL ⟨b17, 0, none⟩ (.int .u8 1) (hs20.cellAt 0 rfl rfl) ?_
 refine zE 2 (hK22 _ _ ?_)
 refine W.cond_true true (by kernel_rfl) rfl ?_
 refine W.sr fun K23 hK23 => ?_
 refine zR 2 ?_
 refine zL ⟨b17, 1, none⟩ (.int .i64 8) (hs20.cellAt 0 rfl rfl) ?_
 refine zR 1 ?_
 refine zL ⟨b17, 2, none⟩ (.int .i64 1) (hs20.cellAt 0 rfl rfl) ?_
 refine zE 3 (hK23 _ _ ?_)
 refine W.exit (exit_seq (exit_here ?_))
 refine hK13 _ _ ?_
 refine W.region ?_
 refine zE 2 ?_
 refine loopAt_next ?_
 refine loopAt_round ?_
 refine W.sr fun K24 hK24 => ?_
 refine zE 1 (hK24 _ _ ?_)
 refine W.seq fun K25 hK25 => ?_
 refine W.cond_true true (by kernel_rfl) rfl ?_
 refine W.skip ?_
 refine hK25 _ _ ?_
 refine W.seq fun K26 hK26 => ?_
 refine W.block ?_
 refine W.sr fun K27 hK27 => ?_
 refine zR 1 ?_
 refine zN [(.int .u8 0), (.int .i64 0), (.int .i64 0)] 105 hs20 fun b30 w28 hs29 => ?_
 refine ops_store (off := 0) (cs := [(.int .u8 0), (.int .i64 0), (.int .i64 0)]) (vs := [(.int .u8 2), (.int .i64 64), (.int .i64 4)]) hs29 (by kernel_rfl) (by simp) rfl (fun w31 hs32 => ?_)
 have hs33 : St B w [] w31 [blk b30 (.cells [(.int .u8 2), (.int .i64 64), (.int .i64 4)].toArray 105 (0, 0)), blk b17 (.cells [(.int .u8 1), (.int .i64 8), (.int .i64 1)].toArray 105 (0, 0)), blk b4 (.cells [(.int .i64 gw), (.int .i64 gi), (.int .i64 gb)].toArray 23 (0, 0))] := hs32
 refine zD (hK27 _ _ ?_)
 refine W.seq fun K34 hK34 => ?_
 refine W.sr fun K35 hK35 => ?_
 refine zR 1 ?_
 refine zL ⟨b30, 0, none⟩ (.int .u8 2) (hs33.cellAt 0 rfl rfl) ?_
 refine zE 2 (hK35 _ _ ?_)
 refine W.cond_true true (by kernel_rfl) rfl ?_
 refine W.sr fun K36 hK36 => ?_
 refine zR 2 ?_
 refine zL ⟨b30, 1, none⟩ (.int .i64 64) (hs33.cellAt 0 rfl rfl) ?_
 refine zR 1 ?_
 refine zL ⟨b30, 2, none⟩ (.int .i64 4) (hs33.cellAt 0 rfl rfl) ?_
 refine zE 3 (hK36 _ _ ?_)
 refine W.exit (exit_seq (exit_here ?_))
 refine hK26 _ _ ?_
 refine W.region ?_
 refine zE 2 ?_
 refine loopAt_next ?_
 refine loopAt_round ?_
 refine W.sr fun K37 hK37 => ?_
 refine zE 1 (hK37 _ _ ?_)
 refine W.seq fun K38 hK38 => ?_
 refine W.cond_true true (by kernel_rfl) rfl ?_
 refine W.skip ?_
 refine hK38 _ _ ?_
 refine W.seq fun K39 hK39 => ?_
 refine W.block ?_
 refine W.sr fun K40 hK40 => ?_
 refine zR 1 ?_
 refine zN [(.int .u8 0), (.int .i64 0), (.int .i64 0)] 105 hs33 fun b43 w41 hs42 => ?_
 refine ops_store (off := 0) (cs := [(.int .u8 0), (.int .i64 0), (.int .i64 0)]) (vs := [(.int .u8 5), (.int .i64 208), (.int .i64 gw)]) hs42 (by kernel_rfl) (by simp) rfl (fun w44 hs45 => ?_)
 have hs46 : St B w [] w44 [blk b43 (.cells [(.int .u8 5), (.int .i64 208), (.int .i64 gw)].toArray 105 (0, 0)), blk b30 (.cells [(.int .u8 2), (.int .i64 64), (.int .i64 4)].toArray 105 (0, 0)), blk b17 (.cells [(.int .u8 1), (.int .i64 8), (.int .i64 1)].toArray 105 (0, 0)), blk b4 (.cells [(.int .i64 gw), (.int .i64 gi), (.int .i64 gb)].toArray 23 (0, 0))] := hs45
 refine zD (hK40 _ _ ?_)
 refine W.seq fun K47 hK47 => ?_
 refine W.sr fun K48 hK48 => ?_
 refine zR 1 ?_
 refine zL ⟨b43, 0, none⟩ (.int .u8 5) (hs46.cellAt 0 rfl rfl) ?_
 refine zE 2 (hK48 _ _ ?_)
 refine W.cond_true true (by kernel_rfl) rfl ?_
 refine W.sr fun K49 hK49 => ?_
 refine zR 2 ?_
 refine zL ⟨b43, 1, none⟩ (.int .i64 208) (hs46.cellAt 0 rfl rfl) ?_
 refine zR 1 ?_
 refine zL ⟨b43, 2, none⟩ (.int .i64 gw) (hs46.cellAt 0 rfl rfl) ?_
 refine ops_val (v := .int .i64 (IntKind.i64.wrap (208 * gw))) (v' := .int .i64 (IntKind.i64.wrap (208 * gw))) (by kernel_rfl) rfl ?_
 refine ops_val (v := .int .i64 (IntKind.i64.wrap (264 + (IntKind.i64.wrap (208 * gw))))) (v' := .int .i64 (IntKind.i64.wrap (264 + (IntKind.i64.wrap (208 * gw))))) (by kernel_rfl) rfl ?_
 refine zE 1 (hK49 _ _ ?_)
 refine W.exit (exit_seq (exit_here ?_))
 refine hK39 _ _ ?_
 refine W.region ?_
 refine zE 2 ?_
 refine loopAt_next ?_
 refine loopAt_round ?_
 refine W.sr fun K50 hK50 => ?_
 refine zE 1 (hK50 _ _ ?_)
 refine W.seq fun K51 hK51 => ?_
 refine W.cond_true true (by kernel_rfl) rfl ?_
 refine W.skip ?_
 refine hK51 _ _ ?_
 refine W.seq fun K52 hK52 => ?_
 refine W.block ?_
 refine W.sr fun K53 hK53 => ?_
 refine zR 1 ?_
 refine zN [(.int .u8 0), (.int .i64 0), (.int .i64 0)] 105 hs46 fun b56 w54 hs55 => ?_
 refine ops_store (off := 0) (cs := [(.int .u8 0), (.int .i64 0), (.int .i64 0)]) (vs := [(.int .u8 6), (.int .i64 8), (.int .i64 1)]) hs55 (by kernel_rfl) (by simp) rfl (fun w57 hs58 => ?_)
 have hs59 : St B w [] w57 [blk b56 (.cells [(.int .u8 6), (.int .i64 8), (.int .i64 1)].toArray 105 (0, 0)), blk b43 (.cells [(.int .u8 5), (.int .i64 208), (.int .i64 gw)].toArray 105 (0, 0)), blk b30 (.cells [(.int .u8 2), (.int .i64 64), (.int .i64 4)].toArray 105 (0, 0)), blk b17 (.cells [(.int .u8 1), (.int .i64 8), (.int .i64 1)].toArray 105 (0, 0)), blk b4 (.cells [(.int .i64 gw), (.int .i64 gi), (.int .i64 gb)].toArray 23 (0, 0))] := hs58
 refine zD (hK53 _ _ ?_)
 refine W.seq fun K60 hK60 => ?_
 refine W.sr fun K61 hK61 => ?_
 refine zR 1 ?_
 refine zL ⟨b56, 0, none⟩ (.int .u8 6) (hs59.cellAt 0 rfl rfl) ?_
 refine zE 2 (hK61 _ _ ?_)
 refine W.cond_true true (by kernel_rfl) rfl ?_
 refine W.sr fun K62 hK62 => ?_
 refine zR 2 ?_
 refine zL ⟨b56, 1, none⟩ (.int .i64 8) (hs59.cellAt 0 rfl rfl) ?_
 refine zR 1 ?_
 refine zL ⟨b56, 2, none⟩ (.int .i64 1) (hs59.cellAt 0 rfl rfl) ?_
 refine zR 1 ?_
 refine ops_val (v := .int .i64 (IntKind.i64.wrap ((IntKind.i64.wrap (264 + (IntKind.i64.wrap (208 * gw)))) + 8))) (v' := .int .i64 (IntKind.i64.wrap ((IntKind.i64.wrap (264 + (IntKind.i64.wrap (208 * gw)))) + 8))) (by kernel_rfl) rfl ?_
 refine zE 1 (hK62 _ _ ?_)
 refine W.exit (exit_seq (exit_here ?_))
 refine hK52 _ _ ?_
 refine W.region ?_
 refine zE 2 ?_
 refine loopAt_next ?_
 refine loopAt_round ?_
 refine W.sr fun K63 hK63 => ?_
 refine zE 1 (hK63 _ _ ?_)
 refine W.seq fun K64 hK64 => ?_
 refine W.cond_true true (by kernel_rfl) rfl ?_
 refine W.skip ?_
 refine hK64 _ _ ?_
 refine W.seq fun K65 hK65 => ?_
 refine W.block ?_
 refine W.sr fun K66 hK66 => ?_
 refine zR 1 ?_
 refine zN [(.int .u8 0), (.int .i64 0), (.int .i64 0)] 105 hs59 fun b69 w67 hs68 => ?_
 refine ops_store (off := 0) (cs := [(.int .u8 0), (.int .i64 0), (.int .i64 0)]) (vs := [(.int .u8 7), (.int .i64 8), (.int .i64 1)]) hs68 (by kernel_rfl) (by simp) rfl (fun w70 hs71 => ?_)
 have hs72 : St B w [] w70 [blk b69 (.cells [(.int .u8 7), (.int .i64 8), (.int .i64 1)].toArray 105 (0, 0)), blk b56 (.cells [(.int .u8 6), (.int .i64 8), (.int .i64 1)].toArray 105 (0, 0)), blk b43 (.cells [(.int .u8 5), (.int .i64 208), (.int .i64 gw)].toArray 105 (0, 0)), blk b30 (.cells [(.int .u8 2), (.int .i64 64), (.int .i64 4)].toArray 105 (0, 0)), blk b17 (.cells [(.int .u8 1), (.int .i64 8), (.int .i64 1)].toArray 105 (0, 0)), blk b4 (.cells [(.int .i64 gw), (.int .i64 gi), (.int .i64 gb)].toArray 23 (0, 0))] := hs71
 refine zD (hK66 _ _ ?_)
 refine W.seq fun K73 hK73 => ?_
 refine W.sr fun K74 hK74 => ?_
 refine zR 1 ?_
 refine zL ⟨b69, 0, none⟩ (.int .u8 7) (hs72.cellAt 0 rfl rfl) ?_
 refine zE 2 (hK74 _ _ ?_)
 refine W.cond_false false (by kernel_rfl) rfl ?_
 refine W.skip ?_
 refine hK73 _ _ ?_
 refine W.seq fun K75 hK75 => ?_
 refine W.sr fun K76 hK76 => ?_
 refine ops_R (runs_loadAgg (ad := ⟨b4, 0, none⟩) (cs := [(.int .i64 gw), (.int .i64 gi), (.int .i64 gb)]) (by kernel_rfl) (cells_sub (hs72.heapAt 5 rfl) rfl)) ?_
 refine zC00 hs72 (may_spec (gw := gw) (gi := gi) (gb := gb) B _) fun w77 hs79 => ?_
 refine zR 1 ?_
 rcases Bool.eq_false_or_eq_true (decide (May gw gi gb)) with h80 | h80
 ·
  have h80p := of_decide_eq_true h80
  refine zS 28 h80 ?_
  refine zS 27 h80 ?_
  refine zR 2 ?_
  refine zL ⟨b69, 2, none⟩ (.int .i64 1) (hs79.cellAt 0 rfl rfl) ?_
  refine zR 1 ?_
  refine zC00 hs79 (within_spec (n_ := n_) (f_ := 0) (t_ := 0) B _) fun w81 hs83 => ?_
  refine zE 1 (hK76 _ _ ?_)
  refine W.cond (decide (0 ≤ n_ ∧ n_ ≤ 0)) (by kernel_rfl) (fun h84 => ?_) (fun h84 => ?_)
  ·
   have h84p := of_decide_eq_true h84
   refine W.sr fun K85 hK85 => ?_
   refine zR 2 ?_
   refine zL ⟨b69, 1, none⟩ (.int .i64 8) (hs83.cellAt 0 rfl rfl) ?_
   refine zR 1 ?_
   refine ops_val (v := .int .i64 (IntKind.i64.wrap (8 * n_))) (v' := .int .i64 (IntKind.i64.wrap (8 * n_))) (by kernel_rfl) rfl ?_
   refine ops_val (v := .int .i64 (IntKind.i64.wrap ((IntKind.i64.wrap ((IntKind.i64.wrap (264 + (IntKind.i64.wrap (208 * gw)))) + 8)) + (IntKind.i64.wrap (8 * n_))))) (v' := .int .i64 (IntKind.i64.wrap ((IntKind.i64.wrap ((IntKind.i64.wrap (264 + (IntKind.i64.wrap (208 * gw)))) + 8)) + (IntKind.i64.wrap (8 * n_))))) (by kernel_rfl) rfl ?_
   refine zE 1 (hK85 _ _ ?_)
   refine W.ret (ret_seq (ret_block (ret_seq (ret_seq (ret_block (ret_seq ?_))))))
   have hs86 := St.tk0 hs83
   refine ret_of (.int .i64 (IntKind.i64.wrap ((IntKind.i64.wrap ((IntKind.i64.wrap (264 + (IntKind.i64.wrap (208 * gw)))) + 8)) + (IntKind.i64.wrap (8 * n_))))) (by kernel_rfl) ⟨_, ⟨congrArg (Value.int .i64) (by first | contradiction | (simp only [placeOf, if_pos hm]; split <;> omega) | (simp only [placeOf, if_neg hm]; done) | (simp only [placeOf, if_pos hm]; omega)), rfl⟩, hs86⟩
  ·
   have h84p := of_decide_eq_false h84
   refine W.skip ?_
   refine hK75 _ _ ?_
   refine W.exit (exit_block (by decide) (exit_seq (exit_seq (exit_here ?_))))
   refine hK6 _ _ ?_
   refine W.sr fun K87 hK87 => ?_
   refine zE 1 (hK87 _ _ ?_)
   refine W.ret ?_
   have hs88 := St.tk0 hs83
   refine ret_of (.int .i64 (-1)) (by kernel_rfl) ⟨_, ⟨congrArg (Value.int .i64) (by first | contradiction | (simp only [placeOf, if_pos hm]; split <;> omega) | (simp only [placeOf, if_neg hm]; done) | (simp only [placeOf, if_pos hm]; omega)), rfl⟩, hs88⟩
 ·
  have h80p := of_decide_eq_false h80
  refine zS 28 h80 ?_
  refine zS 27 h80 ?_
  refine zE 6 (hK76 _ _ ?_)
  refine W.cond_false false (by kernel_rfl) rfl ?_
  refine W.skip ?_
  refine hK75 _ _ ?_
  refine W.exit (exit_block (by decide) (exit_seq (exit_seq (exit_here ?_))))
  refine hK6 _ _ ?_
  refine W.sr fun K89 hK89 => ?_
  refine zE 1 (hK89 _ _ ?_)
  refine W.ret ?_
  have hs90 := St.tk0 hs79
  refine ret_of (.int .i64 (-1)) (by kernel_rfl) ⟨_, ⟨congrArg (Value.int .i64) (by first | contradiction | (simp only [placeOf, if_pos hm]; split <;> omega) | (simp only [placeOf, if_neg hm]; done) | (simp only [placeOf, if_pos hm]; omega)), rfl⟩, hs90⟩

theorem place7_spec {gw gi gb n_ : Int} (B : Nat) (w : World) : Spec Tryd.prog 53 #[(.agg #[(.int .i64 gw), (.int .i64 gi), (.int .i64 gb)]), (.int .u8 7), (.int .i64 n_)] B w [] (fun v H' => v = .int .i64 (placeOf 7 gw gi gb n_) ∧ H' = []) := by
 by_cases hm : May gw gi gb
 · exact place7_may B w hm
 · exact place7_not B w hm

theorem place8_may {gw gi gb n_ : Int} (B : Nat) (w : World) (hm : May gw gi gb) : Spec Tryd.prog 53 #[(.agg #[(.int .i64 gw), (.int .i64 gi), (.int .i64 gb)]), (.int .u8 8), (.int .i64 n_)] B w [] (fun v H' => v = .int .i64 (placeOf 8 gw gi gb n_) ∧ H' = []) := by
 refine spec_Q Tryd.func53 rfl fun hs => ?_
 have hm_ : (1 ≤ gw ∧ gw ≤ 4) ∧ (2 ≤ gi ∧ gi ≤ 64) ∧ (2 ≤ gb ∧ gb ≤ 512) := hm
 refine W.sr fun K1 hK1 => ?_
 refine zN [(.int .i64 gw), (.int .i64 gi), (.int .i64 gb)] 23 hs fun b4 w2 hs3 => ?_
 refine zE 1 (hK1 _ _ ?_)
 refine W.sr fun K5 hK5 => ?_
 refine zE 1 (hK5 _ _ ?_)
 refine W.seq fun K6 hK6 => ?_
 refine W.sr fun K7 hK7 => ?_
 refine ops_R (runs_loadAgg (ad := ⟨b4, 0, none⟩) (cs := [(.int .i64 gw), (.int .i64 gi), (.int .i64 gb)]) (by kernel_rfl) (cells_sub (hs3.heapAt 0 rfl) rfl)) ?_
 refine zC00 hs3 (rows_spec (gw := gw) (gi := gi) (gb := gb) B _) fun w8 hs10 => ?_
 refine zE 1 (hK7 _ _ ?_)
 refine W.block ?_
 refine W.loop_start ?_
 refine loopAt_round ?_
 refine W.sr fun K11 hK11 => ?_
 refine zE 1 (hK11 _ _ ?_)
 refine W.seq fun K12 hK12 => ?_
 refine W.cond_true true (by kernel_rfl) rfl ?_
 refine W.skip ?_
 refine hK12 _ _ ?_
 refine W.seq fun K13 hK13 => ?_
 refine W.block ?_
 refine W.sr fun K14 hK14 => ?_
 refine zR 1 ?_
 refine zN [(.int .u8 0), (.int .i64 0), (.int .i64 0)] 105 hs10 fun b17 w15 hs16 => ?_
 refine ops_store (off := 0) (cs := [(.int .u8 0), (.int .i64 0), (.int .i64 0)]) (vs := [(.int .u8 1), (.int .i64 8), (.int .i64 1)]) hs16 (by kernel_rfl) (by simp) rfl (fun w18 hs19 => ?_)
 have hs20 : St B w [] w18 [blk b17 (.cells [(.int .u8 1), (.int .i64 8), (.int .i64 1)].toArray 105 (0, 0)), blk b4 (.cells [(.int .i64 gw), (.int .i64 gi), (.int .i64 gb)].toArray 23 (0, 0))] := hs19
 refine zD (hK14 _ _ ?_)
 refine W.seq fun K21 hK21 => ?_
 refine W.sr fun K22 hK22 => ?_
 refine zR 1 ?_
 refine zL ⟨b17, 0, none⟩ (.int .u8 1) (hs20.cellAt 0 rfl rfl) ?_
 refine zE 2 (hK22 _ _ ?_)
 refine W.cond_true true (by kernel_rfl) rfl ?_
 refine W.sr fun K23 hK23 => ?_
 refine zR 2 ?_
 refine zL ⟨b17, 1, none⟩ (.int .i64 8) (hs20.cellAt 0 rfl rfl) ?_
 refine zR 1 ?_
 refine zL ⟨b17, 2, none⟩ (.int .i64 1) (hs20.cellAt 0 rfl rfl) ?_
 refine zE 3 (hK23 _ _ ?_)
 refine W.exit (exit_seq (exit_here ?_))
 refine hK13 _ _ ?_
 refine W.region ?_
 refine zE 2 ?_
 refine loopAt_next ?_
 refine loopAt_round ?_
 refine W.sr fun K24 hK24 => ?_
 refine zE 1 (hK24 _ _ ?_)
 refine W.seq fun K25 hK25 => ?_
 refine W.cond_true true (by kernel_rfl) rfl ?_
 refine W.skip ?_
 refine hK25 _ _ ?_
 refine W.seq fun K26 hK26 => ?_
 refine W.block ?_
 refine W.sr fun K27 hK27 => ?_
 refine zR 1 ?_
 refine zN [(.int .u8 0), (.int .i64 0), (.int .i64 0)] 105 hs20 fun b30 w28 hs29 => ?_
 refine ops_store (off := 0) (cs := [(.int .u8 0), (.int .i64 0), (.int .i64 0)]) (vs := [(.int .u8 2), (.int .i64 64), (.int .i64 4)]) hs29 (by kernel_rfl) (by simp) rfl (fun w31 hs32 => ?_)
 have hs33 : St B w [] w31 [blk b30 (.cells [(.int .u8 2), (.int .i64 64), (.int .i64 4)].toArray 105 (0, 0)), blk b17 (.cells [(.int .u8 1), (.int .i64 8), (.int .i64 1)].toArray 105 (0, 0)), blk b4 (.cells [(.int .i64 gw), (.int .i64 gi), (.int .i64 gb)].toArray 23 (0, 0))] := hs32
 refine zD (hK27 _ _ ?_)
 refine W.seq fun K34 hK34 => ?_
 refine W.sr fun K35 hK35 => ?_
 refine zR 1 ?_
 refine zL ⟨b30, 0, none⟩ (.int .u8 2) (hs33.cellAt 0 rfl rfl) ?_
 refine zE 2 (hK35 _ _ ?_)
 refine W.cond_true true (by kernel_rfl) rfl ?_
 refine W.sr fun K36 hK36 => ?_
 refine zR 2 ?_
 refine zL ⟨b30, 1, none⟩ (.int .i64 64) (hs33.cellAt 0 rfl rfl) ?_
 refine zR 1 ?_
 refine zL ⟨b30, 2, none⟩ (.int .i64 4) (hs33.cellAt 0 rfl rfl) ?_
 refine zE 3 (hK36 _ _ ?_)
 refine W.exit (exit_seq (exit_here ?_))
 refine hK26 _ _ ?_
 refine W.region ?_
 refine zE 2 ?_
 refine loopAt_next ?_
 refine loopAt_round ?_
 refine W.sr fun K37 hK37 => ?_
 refine zE 1 (hK37 _ _ ?_)
 refine W.seq fun K38 hK38 => ?_
 refine W.cond_true true (by kernel_rfl) rfl ?_
 refine W.skip ?_
 refine hK38 _ _ ?_
 refine W.seq fun K39 hK39 => ?_
 refine W.block ?_
 refine W.sr fun K40 hK40 => ?_
 refine zR 1 ?_
 refine zN [(.int .u8 0), (.int .i64 0), (.int .i64 0)] 105 hs33 fun b43 w41 hs42 => ?_
 refine ops_store (off := 0) (cs := [(.int .u8 0), (.int .i64 0), (.int .i64 0)]) (vs := [(.int .u8 5), (.int .i64 208), (.int .i64 gw)]) hs42 (by kernel_rfl) (by simp) rfl (fun w44 hs45 => ?_)
 have hs46 : St B w [] w44 [blk b43 (.cells [(.int .u8 5), (.int .i64 208), (.int .i64 gw)].toArray 105 (0, 0)), blk b30 (.cells [(.int .u8 2), (.int .i64 64), (.int .i64 4)].toArray 105 (0, 0)), blk b17 (.cells [(.int .u8 1), (.int .i64 8), (.int .i64 1)].toArray 105 (0, 0)), blk b4 (.cells [(.int .i64 gw), (.int .i64 gi), (.int .i64 gb)].toArray 23 (0, 0))] := hs45
 refine zD (hK40 _ _ ?_)
 refine W.seq fun K47 hK47 => ?_
 refine W.sr fun K48 hK48 => ?_
 refine zR 1 ?_
 refine zL ⟨b43, 0, none⟩ (.int .u8 5) (hs46.cellAt 0 rfl rfl) ?_
 refine zE 2 (hK48 _ _ ?_)
 refine W.cond_true true (by kernel_rfl) rfl ?_
 refine W.sr fun K49 hK49 => ?_
 refine zR 2 ?_
 refine zL ⟨b43, 1, none⟩ (.int .i64 208) (hs46.cellAt 0 rfl rfl) ?_
 refine zR 1 ?_
 refine zL ⟨b43, 2, none⟩ (.int .i64 gw) (hs46.cellAt 0 rfl rfl) ?_
 refine zI (208 * gw) (wrap_i64 (by omega) (by omega)) ?_
 refine zI (264 + (208 * gw)) (wrap_i64 (by omega) (by omega)) ?_
 refine zE 1 (hK49 _ _ ?_)
 refine W.exit (exit_seq (exit_here ?_))
 refine hK39 _ _ ?_
 refine W.region ?_
 refine zE 2 ?_
 refine loopAt_next ?_
 refine loopAt_round ?_
 refine W.sr fun K50 hK50 => ?_
 refine zE 1 (hK50 _ _ ?_)
 refine W.seq fun K51 hK51 => ?_
 refine W.cond_true true (by kernel_rfl) rfl ?_
 refine W.skip ?_
 refine hK51 _ _ ?_
 refine W.seq fun K52 hK52 => ?_
 refine W.block ?_
 refine W.sr fun K53 hK53 => ?_
 refine zR 1 ?_
 refine zN [(.int .u8 0), (.int .i64 0), (.int .i64 0)] 105 hs46 fun b56 w54 hs55 => ?_
 refine ops_store (off := 0) (cs := [(.int .u8 0), (.int .i64 0), (.int .i64 0)]) (vs := [(.int .u8 6), (.int .i64 8), (.int .i64 1)]) hs55 (by kernel_rfl) (by simp) rfl (fun w57 hs58 => ?_)
 have hs59 : St B w [] w57 [blk b56 (.cells [(.int .u8 6), (.int .i64 8), (.int .i64 1)].toArray 105 (0, 0)), blk b43 (.cells [(.int .u8 5), (.int .i64 208), (.int .i64 gw)].toArray 105 (0, 0)), blk b30 (.cells [(.int .u8 2), (.int .i64 64), (.int .i64 4)].toArray 105 (0, 0)), blk b17 (.cells [(.int .u8 1), (.int .i64 8), (.int .i64 1)].toArray 105 (0, 0)), blk b4 (.cells [(.int .i64 gw), (.int .i64 gi), (.int .i64 gb)].toArray 23 (0, 0))] := hs58
 refine zD (hK53 _ _ ?_)
 refine W.seq fun K60 hK60 => ?_
 refine W.sr fun K61 hK61 => ?_
 refine zR 1 ?_
 refine zL ⟨b56, 0, none⟩ (.int .u8 6) (hs59.cellAt 0 rfl rfl) ?_
 refine zE 2 (hK61 _ _ ?_)
 refine W.cond_true true (by kernel_rfl) rfl ?_
 refine W.sr fun K62 hK62 => ?_
 refine zR 2 ?_
 refine zL ⟨b56, 1, none⟩ (.int .i64 8) (hs59.cellAt 0 rfl rfl) ?_
 refine zR 1 ?_
 refine zL ⟨b56, 2, none⟩ (.int .i64 1) (hs59.cellAt 0 rfl rfl) ?_
 refine zR 1 ?_
 refine zI ((264 + (208 * gw)) + 8) (wrap_i64 (by omega) (by omega)) ?_
 refine zE 1 (hK62 _ _ ?_)
 refine W.exit (exit_seq (exit_here ?_))
 refine hK52 _ _ ?_
 refine W.region ?_
 refine zE 2 ?_
 refine loopAt_next ?_
 refine loopAt_round ?_
 refine W.sr fun K63 hK63 => ?_
 refine zE 1 (hK63 _ _ ?_)
 refine W.seq fun K64 hK64 => ?_
 refine W.cond_true true (by kernel_rfl) rfl ?_
 refine W.skip ?_
 refine hK64 _ _ ?_
 refine W.seq fun K65 hK65 => ?_
 refine W.block ?_
 refine W.sr fun K66 hK66 => ?_
 refine zR 1 ?_
 refine zN [(.int .u8 0), (.int .i64 0), (.int .i64 0)] 105 hs59 fun b69 w67 hs68 => ?_
 refine ops_store (off := 0) (cs := [(.int .u8 0), (.int .i64 0), (.int .i64 0)]) (vs := [(.int .u8 7), (.int .i64 8), (.int .i64 1)]) hs68 (by kernel_rfl) (by simp) rfl (fun w70 hs71 => ?_)
 have hs72 : St B w [] w70 [blk b69 (.cells [(.int .u8 7), (.int .i64 8), (.int .i64 1)].toArray 105 (0, 0)), blk b56 (.cells [(.int .u8 6), (.int .i64 8), (.int .i64 1)].toArray 105 (0, 0)), blk b43 (.cells [(.int .u8 5), (.int .i64 208), (.int .i64 gw)].toArray 105 (0, 0)), blk b30 (.cells [(.int .u8 2), (.int .i64 64), (.int .i64 4)].toArray 105 (0, 0)), blk b17 (.cells [(.int .u8 1), (.int .i64 8), (.int .i64 1)].toArray 105 (0, 0)), blk b4 (.cells [(.int .i64 gw), (.int .i64 gi), (.int .i64 gb)].toArray 23 (0, 0))] := hs71
 refine zD (hK66 _ _ ?_)
 refine W.seq fun K73 hK73 => ?_
 refine W.sr fun K74 hK74 => ?_
 refine zR 1 ?_
 refine zL ⟨b69, 0, none⟩ (.int .u8 7) (hs72.cellAt 0 rfl rfl) ?_
 refine zE 2 (hK74 _ _ ?_)
 refine W.cond_true true (by kernel_rfl) rfl ?_
 refine W.sr fun K75 hK75 => ?_
 refine zR 2 ?_
 refine zL ⟨b69, 1, none⟩ (.int .i64 8) (hs72.cellAt 0 rfl rfl) ?_
 refine zR 1 ?_
 refine zL ⟨b69, 2, none⟩ (.int .i64 1) (hs72.cellAt 0 rfl rfl) ?_
 refine zR 1 ?_
 refine zI (((264 + (208 * gw)) + 8) + 8) (wrap_i64 (by omega) (by omega)) ?_
 refine zE 1 (hK75 _ _ ?_)
 refine W.exit (exit_seq (exit_here ?_))
 refine hK65 _ _ ?_
 refine W.region ?_
 refine zE 2 ?_
 refine loopAt_next ?_
 refine loopAt_round ?_
 refine W.sr fun K76 hK76 => ?_
 refine zE 1 (hK76 _ _ ?_)
 refine W.seq fun K77 hK77 => ?_
 refine W.cond_true true (by kernel_rfl) rfl ?_
 refine W.skip ?_
 refine hK77 _ _ ?_
 refine W.seq fun K78 hK78 => ?_
 refine W.block ?_
 refine W.sr fun K79 hK79 => ?_
 refine zR 1 ?_
 refine zN [(.int .u8 0), (.int .i64 0), (.int .i64 0)] 105 hs72 fun b82 w80 hs81 => ?_
 refine ops_store (off := 0) (cs := [(.int .u8 0), (.int .i64 0), (.int .i64 0)]) (vs := [(.int .u8 8), (.int .i64 16), (.int .i64 gi)]) hs81 (by kernel_rfl) (by simp) rfl (fun w83 hs84 => ?_)
 have hs85 : St B w [] w83 [blk b82 (.cells [(.int .u8 8), (.int .i64 16), (.int .i64 gi)].toArray 105 (0, 0)), blk b69 (.cells [(.int .u8 7), (.int .i64 8), (.int .i64 1)].toArray 105 (0, 0)), blk b56 (.cells [(.int .u8 6), (.int .i64 8), (.int .i64 1)].toArray 105 (0, 0)), blk b43 (.cells [(.int .u8 5), (.int .i64 208), (.int .i64 gw)].toArray 105 (0, 0)), blk b30 (.cells [(.int .u8 2), (.int .i64 64), (.int .i64 4)].toArray 105 (0, 0)), blk b17 (.cells [(.int .u8 1), (.int .i64 8), (.int .i64 1)].toArray 105 (0, 0)), blk b4 (.cells [(.int .i64 gw), (.int .i64 gi), (.int .i64 gb)].toArray 23 (0, 0))] := hs84
 refine zD (hK79 _ _ ?_)
 refine W.seq fun K86 hK86 => ?_
 refine W.sr fun K87 hK87 => ?_
 refine zR 1 ?_
 refine zL ⟨b82, 0, none⟩ (.int .u8 8) (hs85.cellAt 0 rfl rfl) ?_
 refine zE 2 (hK87 _ _ ?_)
 refine W.cond_false false (by kernel_rfl) rfl ?_
 refine W.skip ?_
 refine hK86 _ _ ?_
 refine W.seq fun K88 hK88 => ?_
 refine W.sr fun K89 hK89 => ?_
 refine ops_R (runs_loadAgg (ad := ⟨b4, 0, none⟩) (cs := [(.int .i64 gw), (.int .i64 gi), (.int .i64 gb)]) (by kernel_rfl) (cells_sub (hs85.heapAt 6 rfl) rfl)) ?_
 refine zC00 hs85 (may_spec (gw := gw) (gi := gi) (gb := gb) B _) fun w90 hs92 => ?_
 refine zR 1 ?_
 rcases Bool.eq_false_or_eq_true (decide (May gw gi gb)) with h93 | h93
 ·
  have h93p := of_decide_eq_true h93
  refine zS 28 h93 ?_
  refine zS 27 h93 ?_
  refine zR 2 ?_
  refine zL ⟨b82, 2, none⟩ (.int .i64 gi) (hs92.cellAt 0 rfl rfl) ?_
  refine zI (gi - 1) (wrap_i64 (by omega) (by omega)) ?_
  refine zC00 hs92 (within_spec (n_ := n_) (f_ := 0) (t_ := (gi - 1)) B _) fun w94 hs96 => ?_
  refine zE 1 (hK89 _ _ ?_)
  refine W.cond (decide (0 ≤ n_ ∧ n_ ≤ (gi - 1))) (by kernel_rfl) (fun h97 => ?_) (fun h97 => ?_)
  ·
   have h97p := of_decide_eq_true h97
   refine W.sr fun K98 hK98 => ?_
   refine zR 2 ?_
   refine zL ⟨b82, 1, none⟩ (.int .i64 16) (hs96.cellAt 0 rfl rfl) ?_
   refine zR 1 ?_
   refine zI (16 * n_) (wrap_i64 (by omega) (by omega)) ?_
   refine zI ((((264 + (208 * gw)) + 8) + 8) + (16 * n_)) (wrap_i64 (by omega) (by omega)) ?_
   refine zE 1 (hK98 _ _ ?_)
   refine W.ret (ret_seq (ret_block (ret_seq (ret_seq (ret_block (ret_seq ?_))))))
   have hs99 := St.tk0 hs96
   refine ret_of (.int .i64 ((((264 + (208 * gw)) + 8) + 8) + (16 * n_))) (by kernel_rfl) ⟨_, ⟨congrArg (Value.int .i64) (by first | contradiction | (simp only [placeOf, if_pos hm]; split <;> omega) | (simp only [placeOf, if_neg hm]; done) | (simp only [placeOf, if_pos hm]; omega)), rfl⟩, hs99⟩
  ·
   have h97p := of_decide_eq_false h97
   refine W.skip ?_
   refine hK88 _ _ ?_
   refine W.exit (exit_block (by decide) (exit_seq (exit_seq (exit_here ?_))))
   refine hK6 _ _ ?_
   refine W.sr fun K100 hK100 => ?_
   refine zE 1 (hK100 _ _ ?_)
   refine W.ret ?_
   have hs101 := St.tk0 hs96
   refine ret_of (.int .i64 (-1)) (by kernel_rfl) ⟨_, ⟨congrArg (Value.int .i64) (by first | contradiction | (simp only [placeOf, if_pos hm]; split <;> omega) | (simp only [placeOf, if_neg hm]; done) | (simp only [placeOf, if_pos hm]; omega)), rfl⟩, hs101⟩
 ·
  have h93p := of_decide_eq_false h93
  refine zS 28 h93 ?_
  refine zS 27 h93 ?_
  refine zE 6 (hK89 _ _ ?_)
  refine W.cond_false false (by kernel_rfl) rfl ?_
  refine W.skip ?_
  refine hK88 _ _ ?_
  refine W.exit (exit_block (by decide) (exit_seq (exit_seq (exit_here ?_))))
  refine hK6 _ _ ?_
  refine W.sr fun K102 hK102 => ?_
  refine zE 1 (hK102 _ _ ?_)
  refine W.ret ?_
  have hs103 := St.tk0 hs92
  refine ret_of (.int .i64 (-1)) (by kernel_rfl) ⟨_, ⟨congrArg (Value.int .i64) (by first | contradiction | (simp only [placeOf, if_pos hm]; split <;> omega) | (simp only [placeOf, if_neg hm]; done) | (simp only [placeOf, if_pos hm]; omega)), rfl⟩, hs103⟩

theorem place8_not {gw gi gb n_ : Int} (B : Nat) (w : World) (hm : ¬ May gw gi gb) : Spec Tryd.prog 53 #[(.agg #[(.int .i64 gw), (.int .i64 gi), (.int .i64 gb)]), (.int .u8 8), (.int .i64 n_)] B w [] (fun v H' => v = .int .i64 (placeOf 8 gw gi gb n_) ∧ H' = []) := by
 refine spec_Q Tryd.func53 rfl fun hs => ?_
 refine W.sr fun K1 hK1 => ?_
 refine zN [(.int .i64 gw), (.int .i64 gi), (.int .i64 gb)] 23 hs fun b4 w2 hs3 => ?_
 refine zE 1 (hK1 _ _ ?_)
 refine W.sr fun K5 hK5 => ?_
 refine zE 1 (hK5 _ _ ?_)
 refine W.seq fun K6 hK6 => ?_
 refine W.sr fun K7 hK7 => ?_
 refine ops_R (runs_loadAgg (ad := ⟨b4, 0, none⟩) (cs := [(.int .i64 gw), (.int .i64 gi), (.int .i64 gb)]) (by kernel_rfl) (cells_sub (hs3.heapAt 0 rfl) rfl)) ?_
 refine zC00 hs3 (rows_spec (gw := gw) (gi := gi) (gb := gb) B _) fun w8 hs10 => ?_
 refine zE 1 (hK7 _ _ ?_)
 refine W.block ?_
 refine W.loop_start ?_
 refine loopAt_round ?_
 refine W.sr fun K11 hK11 => ?_
 refine zE 1 (hK11 _ _ ?_)
 refine W.seq fun K12 hK12 => ?_
 refine W.cond_true true (by kernel_rfl) rfl ?_
 refine W.skip ?_
 refine hK12 _ _ ?_
 refine W.seq fun K13 hK13 => ?_
 refine W.block ?_
 refine W.sr fun K14 hK14 => ?_
 refine zR 1 ?_
 refine zN [(.int .u8 0), (.int .i64 0), (.int .i64 0)] 105 hs10 fun b17 w15 hs16 => ?_
 refine ops_store (off := 0) (cs := [(.int .u8 0), (.int .i64 0), (.int .i64 0)]) (vs := [(.int .u8 1), (.int .i64 8), (.int .i64 1)]) hs16 (by kernel_rfl) (by simp) rfl (fun w18 hs19 => ?_)
 have hs20 : St B w [] w18 [blk b17 (.cells [(.int .u8 1), (.int .i64 8), (.int .i64 1)].toArray 105 (0, 0)), blk b4 (.cells [(.int .i64 gw), (.int .i64 gi), (.int .i64 gb)].toArray 23 (0, 0))] := hs19
 refine zD (hK14 _ _ ?_)
 refine W.seq fun K21 hK21 => ?_
 refine W.sr fun K22 hK22 => ?_
 refine zR 1 ?_
 refine zL ⟨b17, 0, none⟩ (.int .u8 1) (hs20.cellAt 0 rfl rfl) ?_
 refine zE 2 (hK22 _ _ ?_)
 refine W.cond_true true (by kernel_rfl) rfl ?_
 refine W.sr fun K23 hK23 => ?_
 refine zR 2 ?_
 refine zL ⟨b17, 1, none⟩ (.int .i64 8) (hs20.cellAt 0 rfl rfl) ?_
 refine zR 1 ?_
 refine zL ⟨b17, 2, none⟩ (.int .i64 1) (hs20.cellAt 0 rfl rfl) ?_
 refine zE 3 (hK23 _ _ ?_)
 refine W.exit (exit_seq (exit_here ?_))
 refine hK13 _ _ ?_
 refine W.region ?_
 refine zE 2 ?_
 refine loopAt_next ?_
 refine loopAt_round ?_
 refine W.sr fun K24 hK24 => ?_
 refine zE 1 (hK24 _ _ ?_)
 refine W.seq fun K25 hK25 => ?_
 refine W.cond_true true (by kernel_rfl) rfl ?_
 refine W.skip ?_
 refine hK25 _ _ ?_
 refine W.seq fun K26 hK26 => ?_
 refine W.block ?_
 refine W.sr fun K27 hK27 => ?_
 refine zR 1 ?_
 refine zN [(.int .u8 0), (.int .i64 0), (.int .i64 0)] 105 hs20 fun b30 w28 hs29 => ?_
 refine ops_store (off := 0) (cs := [(.int .u8 0), (.int .i64 0), (.int .i64 0)]) (vs := [(.int .u8 2), (.int .i64 64), (.int .i64 4)]) hs29 (by kernel_rfl) (by simp) rfl (fun w31 hs32 => ?_)
 have hs33 : St B w [] w31 [blk b30 (.cells [(.int .u8 2), (.int .i64 64), (.int .i64 4)].toArray 105 (0, 0)), blk b17 (.cells [(.int .u8 1), (.int .i64 8), (.int .i64 1)].toArray 105 (0, 0)), blk b4 (.cells [(.int .i64 gw), (.int .i64 gi), (.int .i64 gb)].toArray 23 (0, 0))] := hs32
 refine zD (hK27 _ _ ?_)
 refine W.seq fun K34 hK34 => ?_
 refine W.sr fun K35 hK35 => ?_
 refine zR 1 ?_
 refine zL ⟨b30, 0, none⟩ (.int .u8 2) (hs33.cellAt 0 rfl rfl) ?_
 refine zE 2 (hK35 _ _ ?_)
 refine W.cond_true true (by kernel_rfl) rfl ?_
 refine W.sr fun K36 hK36 => ?_
 refine zR 2 ?_
 refine zL ⟨b30, 1, none⟩ (.int .i64 64) (hs33.cellAt 0 rfl rfl) ?_
 refine zR 1 ?_
 refine zL ⟨b30, 2, none⟩ (.int .i64 4) (hs33.cellAt 0 rfl rfl) ?_
 refine zE 3 (hK36 _ _ ?_)
 refine W.exit (exit_seq (exit_here ?_))
 refine hK26 _ _ ?_
 refine W.region ?_
 refine zE 2 ?_
 refine loopAt_next ?_
 refine loopAt_round ?_
 refine W.sr fun K37 hK37 => ?_
 refine zE 1 (hK37 _ _ ?_)
 refine W.seq fun K38 hK38 => ?_
 refine W.cond_true true (by kernel_rfl) rfl ?_
 refine W.skip ?_
 refine hK38 _ _ ?_
 refine W.seq fun K39 hK39 => ?_
 refine W.block ?_
 refine W.sr fun K40 hK40 => ?_
 refine zR 1 ?_
 refine zN [(.int .u8 0), (.int .i64 0), (.int .i64 0)] 105 hs33 fun b43 w41 hs42 => ?_
 refine ops_store (off := 0) (cs := [(.int .u8 0), (.int .i64 0), (.int .i64 0)]) (vs := [(.int .u8 5), (.int .i64 208), (.int .i64 gw)]) hs42 (by kernel_rfl) (by simp) rfl (fun w44 hs45 => ?_)
 have hs46 : St B w [] w44 [blk b43 (.cells [(.int .u8 5), (.int .i64 208), (.int .i64 gw)].toArray 105 (0, 0)), blk b30 (.cells [(.int .u8 2), (.int .i64 64), (.int .i64 4)].toArray 105 (0, 0)), blk b17 (.cells [(.int .u8 1), (.int .i64 8), (.int .i64 1)].toArray 105 (0, 0)), blk b4 (.cells [(.int .i64 gw), (.int .i64 gi), (.int .i64 gb)].toArray 23 (0, 0))] := hs45
 refine zD (hK40 _ _ ?_)
 refine W.seq fun K47 hK47 => ?_
 refine W.sr fun K48 hK48 => ?_
 refine zR 1 ?_
 refine zL ⟨b43, 0, none⟩ (.int .u8 5) (hs46.cellAt 0 rfl rfl) ?_
 refine zE 2 (hK48 _ _ ?_)
 refine W.cond_true true (by kernel_rfl) rfl ?_
 refine W.sr fun K49 hK49 => ?_
 refine zR 2 ?_
 refine zL ⟨b43, 1, none⟩ (.int .i64 208) (hs46.cellAt 0 rfl rfl) ?_
 refine zR 1 ?_
 refine zL ⟨b43, 2, none⟩ (.int .i64 gw) (hs46.cellAt 0 rfl rfl) ?_
 refine ops_val (v := .int .i64 (IntKind.i64.wrap (208 * gw))) (v' := .int .i64 (IntKind.i64.wrap (208 * gw))) (by kernel_rfl) rfl ?_
 refine ops_val (v := .int .i64 (IntKind.i64.wrap (264 + (IntKind.i64.wrap (208 * gw))))) (v' := .int .i64 (IntKind.i64.wrap (264 + (IntKind.i64.wrap (208 * gw))))) (by kernel_rfl) rfl ?_
 refine zE 1 (hK49 _ _ ?_)
 refine W.exit (exit_seq (exit_here ?_))
 refine hK39 _ _ ?_
 refine W.region ?_
 refine zE 2 ?_
 refine loopAt_next ?_
 refine loopAt_round ?_
 refine W.sr fun K50 hK50 => ?_
 refine zE 1 (hK50 _ _ ?_)
 refine W.seq fun K51 hK51 => ?_
 refine W.cond_true true (by kernel_rfl) rfl ?_
 refine W.skip ?_
 refine hK51 _ _ ?_
 refine W.seq fun K52 hK52 => ?_
 refine W.block ?_
 refine W.sr fun K53 hK53 => ?_
 refine zR 1 ?_
 refine zN [(.int .u8 0), (.int .i64 0), (.int .i64 0)] 105 hs46 fun b56 w54 hs55 => ?_
 refine ops_store (off := 0) (cs := [(.int .u8 0), (.int .i64 0), (.int .i64 0)]) (vs := [(.int .u8 6), (.int .i64 8), (.int .i64 1)]) hs55 (by kernel_rfl) (by simp) rfl (fun w57 hs58 => ?_)
 have hs59 : St B w [] w57 [blk b56 (.cells [(.int .u8 6), (.int .i64 8), (.int .i64 1)].toArray 105 (0, 0)), blk b43 (.cells [(.int .u8 5), (.int .i64 208), (.int .i64 gw)].toArray 105 (0, 0)), blk b30 (.cells [(.int .u8 2), (.int .i64 64), (.int .i64 4)].toArray 105 (0, 0)), blk b17 (.cells [(.int .u8 1), (.int .i64 8), (.int .i64 1)].toArray 105 (0, 0)), blk b4 (.cells [(.int .i64 gw), (.int .i64 gi), (.int .i64 gb)].toArray 23 (0, 0))] := hs58
 refine zD (hK53 _ _ ?_)
 refine W.seq fun K60 hK60 => ?_
 refine W.sr fun K61 hK61 => ?_
 refine zR 1 ?_
 refine zL ⟨b56, 0, none⟩ (.int .u8 6) (hs59.cellAt 0 rfl rfl) ?_
 refine zE 2 (hK61 _ _ ?_)
 refine W.cond_true true (by kernel_rfl) rfl ?_
 refine W.sr fun K62 hK62 => ?_
 refine zR 2 ?_
 refine zL ⟨b56, 1, none⟩ (.int .i64 8) (hs59.cellAt 0 rfl rfl) ?_
 refine zR 1 ?_
 refine zL ⟨b56, 2, none⟩ (.int .i64 1) (hs59.cellAt 0 rfl rfl) ?_
 refine zR 1 ?_
 refine ops_val (v := .int .i64 (IntKind.i64.wrap ((IntKind.i64.wrap (264 + (IntKind.i64.wrap (208 * gw)))) + 8))) (v' := .int .i64 (IntKind.i64.wrap ((IntKind.i64.wrap (264 + (IntKind.i64.wrap (208 * gw)))) + 8))) (by kernel_rfl) rfl ?_
 refine zE 1 (hK62 _ _ ?_)
 refine W.exit (exit_seq (exit_here ?_))
 refine hK52 _ _ ?_
 refine W.region ?_
 refine zE 2 ?_
 refine loopAt_next ?_
 refine loopAt_round ?_
 refine W.sr fun K63 hK63 => ?_
 refine zE 1 (hK63 _ _ ?_)
 refine W.seq fun K64 hK64 => ?_
 refine W.cond_true true (by kernel_rfl) rfl ?_
 refine W.skip ?_
 refine hK64 _ _ ?_
 refine W.seq fun K65 hK65 => ?_
 refine W.block ?_
 refine W.sr fun K66 hK66 => ?_
 refine zR 1 ?_
 refine zN [(.int .u8 0), (.int .i64 0), (.int .i64 0)] 105 hs59 fun b69 w67 hs68 => ?_
 refine ops_store (off := 0) (cs := [(.int .u8 0), (.int .i64 0), (.int .i64 0)]) (vs := [(.int .u8 7), (.int .i64 8), (.int .i64 1)]) hs68 (by kernel_rfl) (by simp) rfl (fun w70 hs71 => ?_)
 have hs72 : St B w [] w70 [blk b69 (.cells [(.int .u8 7), (.int .i64 8), (.int .i64 1)].toArray 105 (0, 0)), blk b56 (.cells [(.int .u8 6), (.int .i64 8), (.int .i64 1)].toArray 105 (0, 0)), blk b43 (.cells [(.int .u8 5), (.int .i64 208), (.int .i64 gw)].toArray 105 (0, 0)), blk b30 (.cells [(.int .u8 2), (.int .i64 64), (.int .i64 4)].toArray 105 (0, 0)), blk b17 (.cells [(.int .u8 1), (.int .i64 8), (.int .i64 1)].toArray 105 (0, 0)), blk b4 (.cells [(.int .i64 gw), (.int .i64 gi), (.int .i64 gb)].toArray 23 (0, 0))] := hs71
 refine zD (hK66 _ _ ?_)
 refine W.seq fun K73 hK73 => ?_
 refine W.sr fun K74 hK74 => ?_
 refine zR 1 ?_
 refine zL ⟨b69, 0, none⟩ (.int .u8 7) (hs72.cellAt 0 rfl rfl) ?_
 refine zE 2 (hK74 _ _ ?_)
 refine W.cond_true true (by kernel_rfl) rfl ?_
 refine W.sr fun K75 hK75 => ?_
 refine zR 2 ?_
 refine zL ⟨b69, 1, none⟩ (.int .i64 8) (hs72.cellAt 0 rfl rfl) ?_
 refine zR 1 ?_
 refine zL ⟨b69, 2, none⟩ (.int .i64 1) (hs72.cellAt 0 rfl rfl) ?_
 refine zR 1 ?_
 refine ops_val (v := .int .i64 (IntKind.i64.wrap ((IntKind.i64.wrap ((IntKind.i64.wrap (264 + (IntKind.i64.wrap (208 * gw)))) + 8)) + 8))) (v' := .int .i64 (IntKind.i64.wrap ((IntKind.i64.wrap ((IntKind.i64.wrap (264 + (IntKind.i64.wrap (208 * gw)))) + 8)) + 8))) (by kernel_rfl) rfl ?_
 refine zE 1 (hK75 _ _ ?_)
 refine W.exit (exit_seq (exit_here ?_))
 refine hK65 _ _ ?_
 refine W.region ?_
 refine zE 2 ?_
 refine loopAt_next ?_
 refine loopAt_round ?_
 refine W.sr fun K76 hK76 => ?_
 refine zE 1 (hK76 _ _ ?_)
 refine W.seq fun K77 hK77 => ?_
 refine W.cond_true true (by kernel_rfl) rfl ?_
 refine W.skip ?_
 refine hK77 _ _ ?_
 refine W.seq fun K78 hK78 => ?_
 refine W.block ?_
 refine W.sr fun K79 hK79 => ?_
 refine zR 1 ?_
 refine zN [(.int .u8 0), (.int .i64 0), (.int .i64 0)] 105 hs72 fun b82 w80 hs81 => ?_
 refine ops_store (off := 0) (cs := [(.int .u8 0), (.int .i64 0), (.int .i64 0)]) (vs := [(.int .u8 8), (.int .i64 16), (.int .i64 gi)]) hs81 (by kernel_rfl) (by simp) rfl (fun w83 hs84 => ?_)
 have hs85 : St B w [] w83 [blk b82 (.cells [(.int .u8 8), (.int .i64 16), (.int .i64 gi)].toArray 105 (0, 0)), blk b69 (.cells [(.int .u8 7), (.int .i64 8), (.int .i64 1)].toArray 105 (0, 0)), blk b56 (.cells [(.int .u8 6), (.int .i64 8), (.int .i64 1)].toArray 105 (0, 0)), blk b43 (.cells [(.int .u8 5), (.int .i64 208), (.int .i64 gw)].toArray 105 (0, 0)), blk b30 (.cells [(.int .u8 2), (.int .i64 64), (.int .i64 4)].toArray 105 (0, 0)), blk b17 (.cells [(.int .u8 1), (.int .i64 8), (.int .i64 1)].toArray 105 (0, 0)), blk b4 (.cells [(.int .i64 gw), (.int .i64 gi), (.int .i64 gb)].toArray 23 (0, 0))] := hs84
 refine zD (hK79 _ _ ?_)
 refine W.seq fun K86 hK86 => ?_
 refine W.sr fun K87 hK87 => ?_
 refine zR 1 ?_
 refine zL ⟨b82, 0, none⟩ (.int .u8 8) (hs85.cellAt 0 rfl rfl) ?_
 refine zE 2 (hK87 _ _ ?_)
 refine W.cond_false false (by kernel_rfl) rfl ?_
 refine W.skip ?_
 refine hK86 _ _ ?_
 refine W.seq fun K88 hK88 => ?_
 refine W.sr fun K89 hK89 => ?_
 refine ops_R (runs_loadAgg (ad := ⟨b4, 0, none⟩) (cs := [(.int .i64 gw), (.int .i64 gi), (.int .i64 gb)]) (by kernel_rfl) (cells_sub (hs85.heapAt 6 rfl) rfl)) ?_
 refine zC00 hs85 (may_spec (gw := gw) (gi := gi) (gb := gb) B _) fun w90 hs92 => ?_
 refine zR 1 ?_
 rcases Bool.eq_false_or_eq_true (decide (May gw gi gb)) with h93 | h93
 ·
  have h93p := of_decide_eq_true h93
  refine zS 28 h93 ?_
  refine zS 27 h93 ?_
  refine zR 2 ?_
  refine zL ⟨b82, 2, none⟩ (.int .i64 gi) (hs92.cellAt 0 rfl rfl) ?_
  refine ops_val (v := .int .i64 (IntKind.i64.wrap (gi - 1))) (v' := .int .i64 (IntKind.i64.wrap (gi - 1))) (by kernel_rfl) rfl ?_
  refine zC00 hs92 (within_spec (n_ := n_) (f_ := 0) (t_ := (IntKind.i64.wrap (gi - 1))) B _) fun w94 hs96 => ?_
  refine zE 1 (hK89 _ _ ?_)
  refine W.cond (decide (0 ≤ n_ ∧ n_ ≤ (IntKind.i64.wrap (gi - 1)))) (by kernel_rfl) (fun h97 => ?_) (fun h97 => ?_)
  ·
   have h97p := of_decide_eq_true h97
   refine W.sr fun K98 hK98 => ?_
   refine zR 2 ?_
   refine zL ⟨b82, 1, none⟩ (.int .i64 16) (hs96.cellAt 0 rfl rfl) ?_
   refine zR 1 ?_
   refine ops_val (v := .int .i64 (IntKind.i64.wrap (16 * n_))) (v' := .int .i64 (IntKind.i64.wrap (16 * n_))) (by kernel_rfl) rfl ?_
   refine ops_val (v := .int .i64 (IntKind.i64.wrap ((IntKind.i64.wrap ((IntKind.i64.wrap ((IntKind.i64.wrap (264 + (IntKind.i64.wrap (208 * gw)))) + 8)) + 8)) + (IntKind.i64.wrap (16 * n_))))) (v' := .int .i64 (IntKind.i64.wrap ((IntKind.i64.wrap ((IntKind.i64.wrap ((IntKind.i64.wrap (264 + (IntKind.i64.wrap (208 * gw)))) + 8)) + 8)) + (IntKind.i64.wrap (16 * n_))))) (by kernel_rfl) rfl ?_
   refine zE 1 (hK98 _ _ ?_)
   refine W.ret (ret_seq (ret_block (ret_seq (ret_seq (ret_block (ret_seq ?_))))))
   have hs99 := St.tk0 hs96
   refine ret_of (.int .i64 (IntKind.i64.wrap ((IntKind.i64.wrap ((IntKind.i64.wrap ((IntKind.i64.wrap (264 + (IntKind.i64.wrap (208 * gw)))) + 8)) + 8)) + (IntKind.i64.wrap (16 * n_))))) (by kernel_rfl) ⟨_, ⟨congrArg (Value.int .i64) (by first | contradiction | (simp only [placeOf, if_pos hm]; split <;> omega) | (simp only [placeOf, if_neg hm]; done) | (simp only [placeOf, if_pos hm]; omega)), rfl⟩, hs99⟩
  ·
   have h97p := of_decide_eq_false h97
   refine W.skip ?_
   refine hK88 _ _ ?_
   refine W.exit (exit_block (by decide) (exit_seq (exit_seq (exit_here ?_))))
   refine hK6 _ _ ?_
   refine W.sr fun K100 hK100 => ?_
   refine zE 1 (hK100 _ _ ?_)
   refine W.ret ?_
   have hs101 := St.tk0 hs96
   refine ret_of (.int .i64 (-1)) (by kernel_rfl) ⟨_, ⟨congrArg (Value.int .i64) (by first | contradiction | (simp only [placeOf, if_pos hm]; split <;> omega) | (simp only [placeOf, if_neg hm]; done) | (simp only [placeOf, if_pos hm]; omega)), rfl⟩, hs101⟩
 ·
  have h93p := of_decide_eq_false h93
  refine zS 28 h93 ?_
  refine zS 27 h93 ?_
  refine zE 6 (hK89 _ _ ?_)
  refine W.cond_false false (by kernel_rfl) rfl ?_
  refine W.skip ?_
  refine hK88 _ _ ?_
  refine W.exit (exit_block (by decide) (exit_seq (exit_seq (exit_here ?_))))
  refine hK6 _ _ ?_
  refine W.sr fun K102 hK102 => ?_
  refine zE 1 (hK102 _ _ ?_)
  refine W.ret ?_
  have hs103 := St.tk0 hs92
  refine ret_of (.int .i64 (-1)) (by kernel_rfl) ⟨_, ⟨congrArg (Value.int .i64) (by first | contradiction | (simp only [placeOf, if_pos hm]; split <;> omega) | (simp only [placeOf, if_neg hm]; done) | (simp only [placeOf, if_pos hm]; omega)), rfl⟩, hs103⟩

theorem place8_spec {gw gi gb n_ : Int} (B : Nat) (w : World) : Spec Tryd.prog 53 #[(.agg #[(.int .i64 gw), (.int .i64 gi), (.int .i64 gb)]), (.int .u8 8), (.int .i64 n_)] B w [] (fun v H' => v = .int .i64 (placeOf 8 gw gi gb n_) ∧ H' = []) := by
 by_cases hm : May gw gi gb
 · exact place8_may B w hm
 · exact place8_not B w hm

theorem place9_may {gw gi gb n_ : Int} (B : Nat) (w : World) (hm : May gw gi gb) : Spec Tryd.prog 53 #[(.agg #[(.int .i64 gw), (.int .i64 gi), (.int .i64 gb)]), (.int .u8 9), (.int .i64 n_)] B w [] (fun v H' => v = .int .i64 (placeOf 9 gw gi gb n_) ∧ H' = []) := by
 refine spec_Q Tryd.func53 rfl fun hs => ?_
 have hm_ : (1 ≤ gw ∧ gw ≤ 4) ∧ (2 ≤ gi ∧ gi ≤ 64) ∧ (2 ≤ gb ∧ gb ≤ 512) := hm
 refine W.sr fun K1 hK1 => ?_
 refine zN [(.int .i64 gw), (.int .i64 gi), (.int .i64 gb)] 23 hs fun b4 w2 hs3 => ?_
 refine zE 1 (hK1 _ _ ?_)
 refine W.sr fun K5 hK5 => ?_
 refine zE 1 (hK5 _ _ ?_)
 refine W.seq fun K6 hK6 => ?_
 refine W.sr fun K7 hK7 => ?_
 refine ops_R (runs_loadAgg (ad := ⟨b4, 0, none⟩) (cs := [(.int .i64 gw), (.int .i64 gi), (.int .i64 gb)]) (by kernel_rfl) (cells_sub (hs3.heapAt 0 rfl) rfl)) ?_
 refine zC00 hs3 (rows_spec (gw := gw) (gi := gi) (gb := gb) B _) fun w8 hs10 => ?_
 refine zE 1 (hK7 _ _ ?_)
 refine W.block ?_
 refine W.loop_start ?_
 refine loopAt_round ?_
 refine W.sr fun K11 hK11 => ?_
 refine zE 1 (hK11 _ _ ?_)
 refine W.seq fun K12 hK12 => ?_
 refine W.cond_true true (by kernel_rfl) rfl ?_
 refine W.skip ?_
 refine hK12 _ _ ?_
 refine W.seq fun K13 hK13 => ?_
 refine W.block ?_
 refine W.sr fun K14 hK14 => ?_
 refine zR 1 ?_
 refine zN [(.int .u8 0), (.int .i64 0), (.int .i64 0)] 105 hs10 fun b17 w15 hs16 => ?_
 refine ops_store (off := 0) (cs := [(.int .u8 0), (.int .i64 0), (.int .i64 0)]) (vs := [(.int .u8 1), (.int .i64 8), (.int .i64 1)]) hs16 (by kernel_rfl) (by simp) rfl (fun w18 hs19 => ?_)
 have hs20 : St B w [] w18 [blk b17 (.cells [(.int .u8 1), (.int .i64 8), (.int .i64 1)].toArray 105 (0, 0)), blk b4 (.cells [(.int .i64 gw), (.int .i64 gi), (.int .i64 gb)].toArray 23 (0, 0))] := hs19
 refine zD (hK14 _ _ ?_)
 refine W.seq fun K21 hK21 => ?_
 refine W.sr fun K22 hK22 => ?_
 refine zR 1 ?_
 refine zL ⟨b17, 0, none⟩ (.int .u8 1) (hs20.cellAt 0 rfl rfl) ?_
 refine zE 2 (hK22 _ _ ?_)
 refine W.cond_true true (by kernel_rfl) rfl ?_
 refine W.sr fun K23 hK23 => ?_
 refine zR 2 ?_
 refine zL ⟨b17, 1, none⟩ (.int .i64 8) (hs20.cellAt 0 rfl rfl) ?_
 refine zR 1 ?_
 refine zL ⟨b17, 2, none⟩ (.int .i64 1) (hs20.cellAt 0 rfl rfl) ?_
 refine zE 3 (hK23 _ _ ?_)
 refine W.exit (exit_seq (exit_here ?_))
 refine hK13 _ _ ?_
 refine W.region ?_
 refine zE 2 ?_
 refine loopAt_next ?_
 refine loopAt_round ?_
 refine W.sr fun K24 hK24 => ?_
 refine zE 1 (hK24 _ _ ?_)
 refine W.seq fun K25 hK25 => ?_
 refine W.cond_true true (by kernel_rfl) rfl ?_
 refine W.skip ?_
 refine hK25 _ _ ?_
 refine W.seq fun K26 hK26 => ?_
 refine W.block ?_
 refine W.sr fun K27 hK27 => ?_
 refine zR 1 ?_
 refine zN [(.int .u8 0), (.int .i64 0), (.int .i64 0)] 105 hs20 fun b30 w28 hs29 => ?_
 refine ops_store (off := 0) (cs := [(.int .u8 0), (.int .i64 0), (.int .i64 0)]) (vs := [(.int .u8 2), (.int .i64 64), (.int .i64 4)]) hs29 (by kernel_rfl) (by simp) rfl (fun w31 hs32 => ?_)
 have hs33 : St B w [] w31 [blk b30 (.cells [(.int .u8 2), (.int .i64 64), (.int .i64 4)].toArray 105 (0, 0)), blk b17 (.cells [(.int .u8 1), (.int .i64 8), (.int .i64 1)].toArray 105 (0, 0)), blk b4 (.cells [(.int .i64 gw), (.int .i64 gi), (.int .i64 gb)].toArray 23 (0, 0))] := hs32
 refine zD (hK27 _ _ ?_)
 refine W.seq fun K34 hK34 => ?_
 refine W.sr fun K35 hK35 => ?_
 refine zR 1 ?_
 refine zL ⟨b30, 0, none⟩ (.int .u8 2) (hs33.cellAt 0 rfl rfl) ?_
 refine zE 2 (hK35 _ _ ?_)
 refine W.cond_true true (by kernel_rfl) rfl ?_
 refine W.sr fun K36 hK36 => ?_
 refine zR 2 ?_
 refine zL ⟨b30, 1, none⟩ (.int .i64 64) (hs33.cellAt 0 rfl rfl) ?_
 refine zR 1 ?_
 refine zL ⟨b30, 2, none⟩ (.int .i64 4) (hs33.cellAt 0 rfl rfl) ?_
 refine zE 3 (hK36 _ _ ?_)
 refine W.exit (exit_seq (exit_here ?_))
 refine hK26 _ _ ?_
 refine W.region ?_
 refine zE 2 ?_
 refine loopAt_next ?_
 refine loopAt_round ?_
 refine W.sr fun K37 hK37 => ?_
 refine zE 1 (hK37 _ _ ?_)
 refine W.seq fun K38 hK38 => ?_
 refine W.cond_true true (by kernel_rfl) rfl ?_
 refine W.skip ?_
 refine hK38 _ _ ?_
 refine W.seq fun K39 hK39 => ?_
 refine W.block ?_
 refine W.sr fun K40 hK40 => ?_
 refine zR 1 ?_
 refine zN [(.int .u8 0), (.int .i64 0), (.int .i64 0)] 105 hs33 fun b43 w41 hs42 => ?_
 refine ops_store (off := 0) (cs := [(.int .u8 0), (.int .i64 0), (.int .i64 0)]) (vs := [(.int .u8 5), (.int .i64 208), (.int .i64 gw)]) hs42 (by kernel_rfl) (by simp) rfl (fun w44 hs45 => ?_)
 have hs46 : St B w [] w44 [blk b43 (.cells [(.int .u8 5), (.int .i64 208), (.int .i64 gw)].toArray 105 (0, 0)), blk b30 (.cells [(.int .u8 2), (.int .i64 64), (.int .i64 4)].toArray 105 (0, 0)), blk b17 (.cells [(.int .u8 1), (.int .i64 8), (.int .i64 1)].toArray 105 (0, 0)), blk b4 (.cells [(.int .i64 gw), (.int .i64 gi), (.int .i64 gb)].toArray 23 (0, 0))] := hs45
 refine zD (hK40 _ _ ?_)
 refine W.seq fun K47 hK47 => ?_
 refine W.sr fun K48 hK48 => ?_
 refine zR 1 ?_
 refine zL ⟨b43, 0, none⟩ (.int .u8 5) (hs46.cellAt 0 rfl rfl) ?_
 refine zE 2 (hK48 _ _ ?_)
 refine W.cond_true true (by kernel_rfl) rfl ?_
 refine W.sr fun K49 hK49 => ?_
 refine zR 2 ?_
 refine zL ⟨b43, 1, none⟩ (.int .i64 208) (hs46.cellAt 0 rfl rfl) ?_
 refine zR 1 ?_
 refine zL ⟨b43, 2, none⟩ (.int .i64 gw) (hs46.cellAt 0 rfl rfl) ?_
 refine zI (208 * gw) (wrap_i64 (by omega) (by omega)) ?_
 refine zI (264 + (208 * gw)) (wrap_i64 (by omega) (by omega)) ?_
 refine zE 1 (hK49 _ _ ?_)
 refine W.exit (exit_seq (exit_here ?_))
 refine hK39 _ _ ?_
 refine W.region ?_
 refine zE 2 ?_
 refine loopAt_next ?_
 refine loopAt_round ?_
 refine W.sr fun K50 hK50 => ?_
 refine zE 1 (hK50 _ _ ?_)
 refine W.seq fun K51 hK51 => ?_
 refine W.cond_true true (by kernel_rfl) rfl ?_
 refine W.skip ?_
 refine hK51 _ _ ?_
 refine W.seq fun K52 hK52 => ?_
 refine W.block ?_
 refine W.sr fun K53 hK53 => ?_
 refine zR 1 ?_
 refine zN [(.int .u8 0), (.int .i64 0), (.int .i64 0)] 105 hs46 fun b56 w54 hs55 => ?_
 refine ops_store (off := 0) (cs := [(.int .u8 0), (.int .i64 0), (.int .i64 0)]) (vs := [(.int .u8 6), (.int .i64 8), (.int .i64 1)]) hs55 (by kernel_rfl) (by simp) rfl (fun w57 hs58 => ?_)
 have hs59 : St B w [] w57 [blk b56 (.cells [(.int .u8 6), (.int .i64 8), (.int .i64 1)].toArray 105 (0, 0)), blk b43 (.cells [(.int .u8 5), (.int .i64 208), (.int .i64 gw)].toArray 105 (0, 0)), blk b30 (.cells [(.int .u8 2), (.int .i64 64), (.int .i64 4)].toArray 105 (0, 0)), blk b17 (.cells [(.int .u8 1), (.int .i64 8), (.int .i64 1)].toArray 105 (0, 0)), blk b4 (.cells [(.int .i64 gw), (.int .i64 gi), (.int .i64 gb)].toArray 23 (0, 0))] := hs58
 refine zD (hK53 _ _ ?_)
 refine W.seq fun K60 hK60 => ?_
 refine W.sr fun K61 hK61 => ?_
 refine zR 1 ?_
 refine zL ⟨b56, 0, none⟩ (.int .u8 6) (hs59.cellAt 0 rfl rfl) ?_
 refine zE 2 (hK61 _ _ ?_)
 refine W.cond_true true (by kernel_rfl) rfl ?_
 refine W.sr fun K62 hK62 => ?_
 refine zR 2 ?_
 refine zL ⟨b56, 1, none⟩ (.int .i64 8) (hs59.cellAt 0 rfl rfl) ?_
 refine zR 1 ?_
 refine zL ⟨b56, 2, none⟩ (.int .i64 1) (hs59.cellAt 0 rfl rfl) ?_
 refine zR 1 ?_
 refine zI ((264 + (208 * gw)) + 8) (wrap_i64 (by omega) (by omega)) ?_
 refine zE 1 (hK62 _ _ ?_)
 refine W.exit (exit_seq (exit_here ?_))
 refine hK52 _ _ ?_
 refine W.region ?_
 refine zE 2 ?_
 refine loopAt_next ?_
 refine loopAt_round ?_
 refine W.sr fun K63 hK63 => ?_
 refine zE 1 (hK63 _ _ ?_)
 refine W.seq fun K64 hK64 => ?_
 refine W.cond_true true (by kernel_rfl) rfl ?_
 refine W.skip ?_
 refine hK64 _ _ ?_
 refine W.seq fun K65 hK65 => ?_
 refine W.block ?_
 refine W.sr fun K66 hK66 => ?_
 refine zR 1 ?_
 refine zN [(.int .u8 0), (.int .i64 0), (.int .i64 0)] 105 hs59 fun b69 w67 hs68 => ?_
 refine ops_store (off := 0) (cs := [(.int .u8 0), (.int .i64 0), (.int .i64 0)]) (vs := [(.int .u8 7), (.int .i64 8), (.int .i64 1)]) hs68 (by kernel_rfl) (by simp) rfl (fun w70 hs71 => ?_)
 have hs72 : St B w [] w70 [blk b69 (.cells [(.int .u8 7), (.int .i64 8), (.int .i64 1)].toArray 105 (0, 0)), blk b56 (.cells [(.int .u8 6), (.int .i64 8), (.int .i64 1)].toArray 105 (0, 0)), blk b43 (.cells [(.int .u8 5), (.int .i64 208), (.int .i64 gw)].toArray 105 (0, 0)), blk b30 (.cells [(.int .u8 2), (.int .i64 64), (.int .i64 4)].toArray 105 (0, 0)), blk b17 (.cells [(.int .u8 1), (.int .i64 8), (.int .i64 1)].toArray 105 (0, 0)), blk b4 (.cells [(.int .i64 gw), (.int .i64 gi), (.int .i64 gb)].toArray 23 (0, 0))] := hs71
 refine zD (hK66 _ _ ?_)
 refine W.seq fun K73 hK73 => ?_
 refine W.sr fun K74 hK74 => ?_
 refine zR 1 ?_
 refine zL ⟨b69, 0, none⟩ (.int .u8 7) (hs72.cellAt 0 rfl rfl) ?_
 refine zE 2 (hK74 _ _ ?_)
 refine W.cond_true true (by kernel_rfl) rfl ?_
 refine W.sr fun K75 hK75 => ?_
 refine zR 2 ?_
 refine zL ⟨b69, 1, none⟩ (.int .i64 8) (hs72.cellAt 0 rfl rfl) ?_
 refine zR 1 ?_
 refine zL ⟨b69, 2, none⟩ (.int .i64 1) (hs72.cellAt 0 rfl rfl) ?_
 refine zR 1 ?_
 refine zI (((264 + (208 * gw)) + 8) + 8) (wrap_i64 (by omega) (by omega)) ?_
 refine zE 1 (hK75 _ _ ?_)
 refine W.exit (exit_seq (exit_here ?_))
 refine hK65 _ _ ?_
 refine W.region ?_
 refine zE 2 ?_
 refine loopAt_next ?_
 refine loopAt_round ?_
 refine W.sr fun K76 hK76 => ?_
 refine zE 1 (hK76 _ _ ?_)
 refine W.seq fun K77 hK77 => ?_
 refine W.cond_true true (by kernel_rfl) rfl ?_
 refine W.skip ?_
 refine hK77 _ _ ?_
 refine W.seq fun K78 hK78 => ?_
 refine W.block ?_
 refine W.sr fun K79 hK79 => ?_
 refine zR 1 ?_
 refine zN [(.int .u8 0), (.int .i64 0), (.int .i64 0)] 105 hs72 fun b82 w80 hs81 => ?_
 refine ops_store (off := 0) (cs := [(.int .u8 0), (.int .i64 0), (.int .i64 0)]) (vs := [(.int .u8 8), (.int .i64 16), (.int .i64 gi)]) hs81 (by kernel_rfl) (by simp) rfl (fun w83 hs84 => ?_)
 have hs85 : St B w [] w83 [blk b82 (.cells [(.int .u8 8), (.int .i64 16), (.int .i64 gi)].toArray 105 (0, 0)), blk b69 (.cells [(.int .u8 7), (.int .i64 8), (.int .i64 1)].toArray 105 (0, 0)), blk b56 (.cells [(.int .u8 6), (.int .i64 8), (.int .i64 1)].toArray 105 (0, 0)), blk b43 (.cells [(.int .u8 5), (.int .i64 208), (.int .i64 gw)].toArray 105 (0, 0)), blk b30 (.cells [(.int .u8 2), (.int .i64 64), (.int .i64 4)].toArray 105 (0, 0)), blk b17 (.cells [(.int .u8 1), (.int .i64 8), (.int .i64 1)].toArray 105 (0, 0)), blk b4 (.cells [(.int .i64 gw), (.int .i64 gi), (.int .i64 gb)].toArray 23 (0, 0))] := hs84
 refine zD (hK79 _ _ ?_)
 refine W.seq fun K86 hK86 => ?_
 refine W.sr fun K87 hK87 => ?_
 refine zR 1 ?_
 refine zL ⟨b82, 0, none⟩ (.int .u8 8) (hs85.cellAt 0 rfl rfl) ?_
 refine zE 2 (hK87 _ _ ?_)
 refine W.cond_true true (by kernel_rfl) rfl ?_
 refine W.sr fun K88 hK88 => ?_
 refine zR 2 ?_
 refine zL ⟨b82, 1, none⟩ (.int .i64 16) (hs85.cellAt 0 rfl rfl) ?_
 refine zR 1 ?_
 refine zL ⟨b82, 2, none⟩ (.int .i64 gi) (hs85.cellAt 0 rfl rfl) ?_
 refine zI (16 * gi) (wrap_i64 (by omega) (by omega)) ?_
 refine zI ((((264 + (208 * gw)) + 8) + 8) + (16 * gi)) (wrap_i64 (by omega) (by omega)) ?_
 refine zE 1 (hK88 _ _ ?_)
 refine W.exit (exit_seq (exit_here ?_))
 refine hK78 _ _ ?_
 refine W.region ?_
 refine zE 2 ?_
 refine loopAt_next ?_
 refine loopAt_round ?_
 refine W.sr fun K89 hK89 => ?_
 refine zE 1 (hK89 _ _ ?_)
 refine W.seq fun K90 hK90 => ?_
 refine W.cond_true true (by kernel_rfl) rfl ?_
 refine W.skip ?_
 refine hK90 _ _ ?_
 refine W.seq fun K91 hK91 => ?_
 refine W.block ?_
 refine W.sr fun K92 hK92 => ?_
 refine zR 1 ?_
 refine zN [(.int .u8 0), (.int .i64 0), (.int .i64 0)] 105 hs85 fun b95 w93 hs94 => ?_
 refine ops_store (off := 0) (cs := [(.int .u8 0), (.int .i64 0), (.int .i64 0)]) (vs := [(.int .u8 9), (.int .i64 8), (.int .i64 gb)]) hs94 (by kernel_rfl) (by simp) rfl (fun w96 hs97 => ?_)
 have hs98 : St B w [] w96 [blk b95 (.cells [(.int .u8 9), (.int .i64 8), (.int .i64 gb)].toArray 105 (0, 0)), blk b82 (.cells [(.int .u8 8), (.int .i64 16), (.int .i64 gi)].toArray 105 (0, 0)), blk b69 (.cells [(.int .u8 7), (.int .i64 8), (.int .i64 1)].toArray 105 (0, 0)), blk b56 (.cells [(.int .u8 6), (.int .i64 8), (.int .i64 1)].toArray 105 (0, 0)), blk b43 (.cells [(.int .u8 5), (.int .i64 208), (.int .i64 gw)].toArray 105 (0, 0)), blk b30 (.cells [(.int .u8 2), (.int .i64 64), (.int .i64 4)].toArray 105 (0, 0)), blk b17 (.cells [(.int .u8 1), (.int .i64 8), (.int .i64 1)].toArray 105 (0, 0)), blk b4 (.cells [(.int .i64 gw), (.int .i64 gi), (.int .i64 gb)].toArray 23 (0, 0))] := hs97
 refine zD (hK92 _ _ ?_)
 refine W.seq fun K99 hK99 => ?_
 refine W.sr fun K100 hK100 => ?_
 refine zR 1 ?_
 refine zL ⟨b95, 0, none⟩ (.int .u8 9) (hs98.cellAt 0 rfl rfl) ?_
 refine zE 2 (hK100 _ _ ?_)
 refine W.cond_false false (by kernel_rfl) rfl ?_
 refine W.skip ?_
 refine hK99 _ _ ?_
 refine W.seq fun K101 hK101 => ?_
 refine W.sr fun K102 hK102 => ?_
 refine ops_R (runs_loadAgg (ad := ⟨b4, 0, none⟩) (cs := [(.int .i64 gw), (.int .i64 gi), (.int .i64 gb)]) (by kernel_rfl) (cells_sub (hs98.heapAt 7 rfl) rfl)) ?_
 refine zC00 hs98 (may_spec (gw := gw) (gi := gi) (gb := gb) B _) fun w103 hs105 => ?_
 refine zR 1 ?_
 rcases Bool.eq_false_or_eq_true (decide (May gw gi gb)) with h106 | h106
 ·
  have h106p := of_decide_eq_true h106
  refine zS 28 h106 ?_
  refine zS 27 h106 ?_
  refine zR 2 ?_
  refine zL ⟨b95, 2, none⟩ (.int .i64 gb) (hs105.cellAt 0 rfl rfl) ?_
  refine zI (gb - 1) (wrap_i64 (by omega) (by omega)) ?_
  refine zC00 hs105 (within_spec (n_ := n_) (f_ := 0) (t_ := (gb - 1)) B _) fun w107 hs109 => ?_
  refine zE 1 (hK102 _ _ ?_)
  refine W.cond (decide (0 ≤ n_ ∧ n_ ≤ (gb - 1))) (by kernel_rfl) (fun h110 => ?_) (fun h110 => ?_)
  ·
   have h110p := of_decide_eq_true h110
   refine W.sr fun K111 hK111 => ?_
   refine zR 2 ?_
   refine zL ⟨b95, 1, none⟩ (.int .i64 8) (hs109.cellAt 0 rfl rfl) ?_
   refine zR 1 ?_
   refine zI (8 * n_) (wrap_i64 (by omega) (by omega)) ?_
   refine zI (((((264 + (208 * gw)) + 8) + 8) + (16 * gi)) + (8 * n_)) (wrap_i64 (by omega) (by omega)) ?_
   refine zE 1 (hK111 _ _ ?_)
   refine W.ret (ret_seq (ret_block (ret_seq (ret_seq (ret_block (ret_seq ?_))))))
   have hs112 := St.tk0 hs109
   refine ret_of (.int .i64 (((((264 + (208 * gw)) + 8) + 8) + (16 * gi)) + (8 * n_))) (by kernel_rfl) ⟨_, ⟨congrArg (Value.int .i64) (by first | contradiction | (simp only [placeOf, if_pos hm]; split <;> omega) | (simp only [placeOf, if_neg hm]; done) | (simp only [placeOf, if_pos hm]; omega)), rfl⟩, hs112⟩
  ·
   have h110p := of_decide_eq_false h110
   refine W.skip ?_
   refine hK101 _ _ ?_
   refine W.exit (exit_block (by decide) (exit_seq (exit_seq (exit_here ?_))))
   refine hK6 _ _ ?_
   refine W.sr fun K113 hK113 => ?_
   refine zE 1 (hK113 _ _ ?_)
   refine W.ret ?_
   have hs114 := St.tk0 hs109
   refine ret_of (.int .i64 (-1)) (by kernel_rfl) ⟨_, ⟨congrArg (Value.int .i64) (by first | contradiction | (simp only [placeOf, if_pos hm]; split <;> omega) | (simp only [placeOf, if_neg hm]; done) | (simp only [placeOf, if_pos hm]; omega)), rfl⟩, hs114⟩
 ·
  have h106p := of_decide_eq_false h106
  refine zS 28 h106 ?_
  refine zS 27 h106 ?_
  refine zE 6 (hK102 _ _ ?_)
  refine W.cond_false false (by kernel_rfl) rfl ?_
  refine W.skip ?_
  refine hK101 _ _ ?_
  refine W.exit (exit_block (by decide) (exit_seq (exit_seq (exit_here ?_))))
  refine hK6 _ _ ?_
  refine W.sr fun K115 hK115 => ?_
  refine zE 1 (hK115 _ _ ?_)
  refine W.ret ?_
  have hs116 := St.tk0 hs105
  refine ret_of (.int .i64 (-1)) (by kernel_rfl) ⟨_, ⟨congrArg (Value.int .i64) (by first | contradiction | (simp only [placeOf, if_pos hm]; split <;> omega) | (simp only [placeOf, if_neg hm]; done) | (simp only [placeOf, if_pos hm]; omega)), rfl⟩, hs116⟩

theorem place9_not {gw gi gb n_ : Int} (B : Nat) (w : World) (hm : ¬ May gw gi gb) : Spec Tryd.prog 53 #[(.agg #[(.int .i64 gw), (.int .i64 gi), (.int .i64 gb)]), (.int .u8 9), (.int .i64 n_)] B w [] (fun v H' => v = .int .i64 (placeOf 9 gw gi gb n_) ∧ H' = []) := by
 refine spec_Q Tryd.func53 rfl fun hs => ?_
 refine W.sr fun K1 hK1 => ?_
 refine zN [(.int .i64 gw), (.int .i64 gi), (.int .i64 gb)] 23 hs fun b4 w2 hs3 => ?_
 refine zE 1 (hK1 _ _ ?_)
 refine W.sr fun K5 hK5 => ?_
 refine zE 1 (hK5 _ _ ?_)
 refine W.seq fun K6 hK6 => ?_
 refine W.sr fun K7 hK7 => ?_
 refine ops_R (runs_loadAgg (ad := ⟨b4, 0, none⟩) (cs := [(.int .i64 gw), (.int .i64 gi), (.int .i64 gb)]) (by kernel_rfl) (cells_sub (hs3.heapAt 0 rfl) rfl)) ?_
 refine zC00 hs3 (rows_spec (gw := gw) (gi := gi) (gb := gb) B _) fun w8 hs10 => ?_
 refine zE 1 (hK7 _ _ ?_)
 refine W.block ?_
 refine W.loop_start ?_
 refine loopAt_round ?_
 refine W.sr fun K11 hK11 => ?_
 refine zE 1 (hK11 _ _ ?_)
 refine W.seq fun K12 hK12 => ?_
 refine W.cond_true true (by kernel_rfl) rfl ?_
 refine W.skip ?_
 refine hK12 _ _ ?_
 refine W.seq fun K13 hK13 => ?_
 refine W.block ?_
 refine W.sr fun K14 hK14 => ?_
 refine zR 1 ?_
 refine zN [(.int .u8 0), (.int .i64 0), (.int .i64 0)] 105 hs10 fun b17 w15 hs16 => ?_
 refine ops_store (off := 0) (cs := [(.int .u8 0), (.int .i64 0), (.int .i64 0)]) (vs := [(.int .u8 1), (.int .i64 8), (.int .i64 1)]) hs16 (by kernel_rfl) (by simp) rfl (fun w18 hs19 => ?_)
 have hs20 : St B w [] w18 [blk b17 (.cells [(.int .u8 1), (.int .i64 8), (.int .i64 1)].toArray 105 (0, 0)), blk b4 (.cells [(.int .i64 gw), (.int .i64 gi), (.int .i64 gb)].toArray 23 (0, 0))] := hs19
 refine zD (hK14 _ _ ?_)
 refine W.seq fun K21 hK21 => ?_
 refine W.sr fun K22 hK22 => ?_
 refine zR 1 ?_
 refine zL ⟨b17, 0, none⟩ (.int .u8 1) (hs20.cellAt 0 rfl rfl) ?_
 refine zE 2 (hK22 _ _ ?_)
 refine W.cond_true true (by kernel_rfl) rfl ?_
 refine W.sr fun K23 hK23 => ?_
 refine zR 2 ?_
 refine zL ⟨b17, 1, none⟩ (.int .i64 8) (hs20.cellAt 0 rfl rfl) ?_
 refine zR 1 ?_
 refine zL ⟨b17, 2, none⟩ (.int .i64 1) (hs20.cellAt 0 rfl rfl) ?_
 refine zE 3 (hK23 _ _ ?_)
 refine W.exit (exit_seq (exit_here ?_))
 refine hK13 _ _ ?_
 refine W.region ?_
 refine zE 2 ?_
 refine loopAt_next ?_
 refine loopAt_round ?_
 refine W.sr fun K24 hK24 => ?_
 refine zE 1 (hK24 _ _ ?_)
 refine W.seq fun K25 hK25 => ?_
 refine W.cond_true true (by kernel_rfl) rfl ?_
 refine W.skip ?_
 refine hK25 _ _ ?_
 refine W.seq fun K26 hK26 => ?_
 refine W.block ?_
 refine W.sr fun K27 hK27 => ?_
 refine zR 1 ?_
 refine zN [(.int .u8 0), (.int .i64 0), (.int .i64 0)] 105 hs20 fun b30 w28 hs29 => ?_
 refine ops_store (off := 0) (cs := [(.int .u8 0), (.int .i64 0), (.int .i64 0)]) (vs := [(.int .u8 2), (.int .i64 64), (.int .i64 4)]) hs29 (by kernel_rfl) (by simp) rfl (fun w31 hs32 => ?_)
 have hs33 : St B w [] w31 [blk b30 (.cells [(.int .u8 2), (.int .i64 64), (.int .i64 4)].toArray 105 (0, 0)), blk b17 (.cells [(.int .u8 1), (.int .i64 8), (.int .i64 1)].toArray 105 (0, 0)), blk b4 (.cells [(.int .i64 gw), (.int .i64 gi), (.int .i64 gb)].toArray 23 (0, 0))] := hs32
 refine zD (hK27 _ _ ?_)
 refine W.seq fun K34 hK34 => ?_
 refine W.sr fun K35 hK35 => ?_
 refine zR 1 ?_
 refine zL ⟨b30, 0, none⟩ (.int .u8 2) (hs33.cellAt 0 rfl rfl) ?_
 refine zE 2 (hK35 _ _ ?_)
 refine W.cond_true true (by kernel_rfl) rfl ?_
 refine W.sr fun K36 hK36 => ?_
 refine zR 2 ?_
 refine zL ⟨b30, 1, none⟩ (.int .i64 64) (hs33.cellAt 0 rfl rfl) ?_
 refine zR 1 ?_
 refine zL ⟨b30, 2, none⟩ (.int .i64 4) (hs33.cellAt 0 rfl rfl) ?_
 refine zE 3 (hK36 _ _ ?_)
 refine W.exit (exit_seq (exit_here ?_))
 refine hK26 _ _ ?_
 refine W.region ?_
 refine zE 2 ?_
 refine loopAt_next ?_
 refine loopAt_round ?_
 refine W.sr fun K37 hK37 => ?_
 refine zE 1 (hK37 _ _ ?_)
 refine W.seq fun K38 hK38 => ?_
 refine W.cond_true true (by kernel_rfl) rfl ?_
 refine W.skip ?_
 refine hK38 _ _ ?_
 refine W.seq fun K39 hK39 => ?_
 refine W.block ?_
 refine W.sr fun K40 hK40 => ?_
 refine zR 1 ?_
 refine zN [(.int .u8 0), (.int .i64 0), (.int .i64 0)] 105 hs33 fun b43 w41 hs42 => ?_
 refine ops_store (off := 0) (cs := [(.int .u8 0), (.int .i64 0), (.int .i64 0)]) (vs := [(.int .u8 5), (.int .i64 208), (.int .i64 gw)]) hs42 (by kernel_rfl) (by simp) rfl (fun w44 hs45 => ?_)
 have hs46 : St B w [] w44 [blk b43 (.cells [(.int .u8 5), (.int .i64 208), (.int .i64 gw)].toArray 105 (0, 0)), blk b30 (.cells [(.int .u8 2), (.int .i64 64), (.int .i64 4)].toArray 105 (0, 0)), blk b17 (.cells [(.int .u8 1), (.int .i64 8), (.int .i64 1)].toArray 105 (0, 0)), blk b4 (.cells [(.int .i64 gw), (.int .i64 gi), (.int .i64 gb)].toArray 23 (0, 0))] := hs45
 refine zD (hK40 _ _ ?_)
 refine W.seq fun K47 hK47 => ?_
 refine W.sr fun K48 hK48 => ?_
 refine zR 1 ?_
 refine zL ⟨b43, 0, none⟩ (.int .u8 5) (hs46.cellAt 0 rfl rfl) ?_
 refine zE 2 (hK48 _ _ ?_)
 refine W.cond_true true (by kernel_rfl) rfl ?_
 refine W.sr fun K49 hK49 => ?_
 refine zR 2 ?_
 refine zL ⟨b43, 1, none⟩ (.int .i64 208) (hs46.cellAt 0 rfl rfl) ?_
 refine zR 1 ?_
 refine zL ⟨b43, 2, none⟩ (.int .i64 gw) (hs46.cellAt 0 rfl rfl) ?_
 refine ops_val (v := .int .i64 (IntKind.i64.wrap (208 * gw))) (v' := .int .i64 (IntKind.i64.wrap (208 * gw))) (by kernel_rfl) rfl ?_
 refine ops_val (v := .int .i64 (IntKind.i64.wrap (264 + (IntKind.i64.wrap (208 * gw))))) (v' := .int .i64 (IntKind.i64.wrap (264 + (IntKind.i64.wrap (208 * gw))))) (by kernel_rfl) rfl ?_
 refine zE 1 (hK49 _ _ ?_)
 refine W.exit (exit_seq (exit_here ?_))
 refine hK39 _ _ ?_
 refine W.region ?_
 refine zE 2 ?_
 refine loopAt_next ?_
 refine loopAt_round ?_
 refine W.sr fun K50 hK50 => ?_
 refine zE 1 (hK50 _ _ ?_)
 refine W.seq fun K51 hK51 => ?_
 refine W.cond_true true (by kernel_rfl) rfl ?_
 refine W.skip ?_
 refine hK51 _ _ ?_
 refine W.seq fun K52 hK52 => ?_
 refine W.block ?_
 refine W.sr fun K53 hK53 => ?_
 refine zR 1 ?_
 refine zN [(.int .u8 0), (.int .i64 0), (.int .i64 0)] 105 hs46 fun b56 w54 hs55 => ?_
 refine ops_store (off := 0) (cs := [(.int .u8 0), (.int .i64 0), (.int .i64 0)]) (vs := [(.int .u8 6), (.int .i64 8), (.int .i64 1)]) hs55 (by kernel_rfl) (by simp) rfl (fun w57 hs58 => ?_)
 have hs59 : St B w [] w57 [blk b56 (.cells [(.int .u8 6), (.int .i64 8), (.int .i64 1)].toArray 105 (0, 0)), blk b43 (.cells [(.int .u8 5), (.int .i64 208), (.int .i64 gw)].toArray 105 (0, 0)), blk b30 (.cells [(.int .u8 2), (.int .i64 64), (.int .i64 4)].toArray 105 (0, 0)), blk b17 (.cells [(.int .u8 1), (.int .i64 8), (.int .i64 1)].toArray 105 (0, 0)), blk b4 (.cells [(.int .i64 gw), (.int .i64 gi), (.int .i64 gb)].toArray 23 (0, 0))] := hs58
 refine zD (hK53 _ _ ?_)
 refine W.seq fun K60 hK60 => ?_
 refine W.sr fun K61 hK61 => ?_
 refine zR 1 ?_
 refine zL ⟨b56, 0, none⟩ (.int .u8 6) (hs59.cellAt 0 rfl rfl) ?_
 refine zE 2 (hK61 _ _ ?_)
 refine W.cond_true true (by kernel_rfl) rfl ?_
 refine W.sr fun K62 hK62 => ?_
 refine zR 2 ?_
 refine zL ⟨b56, 1, none⟩ (.int .i64 8) (hs59.cellAt 0 rfl rfl) ?_
 refine zR 1 ?_
 refine zL ⟨b56, 2, none⟩ (.int .i64 1) (hs59.cellAt 0 rfl rfl) ?_
 refine zR 1 ?_
 refine ops_val (v := .int .i64 (IntKind.i64.wrap ((IntKind.i64.wrap (264 + (IntKind.i64.wrap (208 * gw)))) + 8))) (v' := .int .i64 (IntKind.i64.wrap ((IntKind.i64.wrap (264 + (IntKind.i64.wrap (208 * gw)))) + 8))) (by kernel_rfl) rfl ?_
 refine zE 1 (hK62 _ _ ?_)
 refine W.exit (exit_seq (exit_here ?_))
 refine hK52 _ _ ?_
 refine W.region ?_
 refine zE 2 ?_
 refine loopAt_next ?_
 refine loopAt_round ?_
 refine W.sr fun K63 hK63 => ?_
 refine zE 1 (hK63 _ _ ?_)
 refine W.seq fun K64 hK64 => ?_
 refine W.cond_true true (by kernel_rfl) rfl ?_
 refine W.skip ?_
 refine hK64 _ _ ?_
 refine W.seq fun K65 hK65 => ?_
 refine W.block ?_
 refine W.sr fun K66 hK66 => ?_
 refine zR 1 ?_
 refine zN [(.int .u8 0), (.int .i64 0), (.int .i64 0)] 105 hs59 fun b69 w67 hs68 => ?_
 refine ops_store (off := 0) (cs := [(.int .u8 0), (.int .i64 0), (.int .i64 0)]) (vs := [(.int .u8 7), (.int .i64 8), (.int .i64 1)]) hs68 (by kernel_rfl) (by simp) rfl (fun w70 hs71 => ?_)
 have hs72 : St B w [] w70 [blk b69 (.cells [(.int .u8 7), (.int .i64 8), (.int .i64 1)].toArray 105 (0, 0)), blk b56 (.cells [(.int .u8 6), (.int .i64 8), (.int .i64 1)].toArray 105 (0, 0)), blk b43 (.cells [(.int .u8 5), (.int .i64 208), (.int .i64 gw)].toArray 105 (0, 0)), blk b30 (.cells [(.int .u8 2), (.int .i64 64), (.int .i64 4)].toArray 105 (0, 0)), blk b17 (.cells [(.int .u8 1), (.int .i64 8), (.int .i64 1)].toArray 105 (0, 0)), blk b4 (.cells [(.int .i64 gw), (.int .i64 gi), (.int .i64 gb)].toArray 23 (0, 0))] := hs71
 refine zD (hK66 _ _ ?_)
 refine W.seq fun K73 hK73 => ?_
 refine W.sr fun K74 hK74 => ?_
 refine zR 1 ?_
 refine zL ⟨b69, 0, none⟩ (.int .u8 7) (hs72.cellAt 0 rfl rfl) ?_
 refine zE 2 (hK74 _ _ ?_)
 refine W.cond_true true (by kernel_rfl) rfl ?_
 refine W.sr fun K75 hK75 => ?_
 refine zR 2 ?_
 refine zL ⟨b69, 1, none⟩ (.int .i64 8) (hs72.cellAt 0 rfl rfl) ?_
 refine zR 1 ?_
 refine zL ⟨b69, 2, none⟩ (.int .i64 1) (hs72.cellAt 0 rfl rfl) ?_
 refine zR 1 ?_
 refine ops_val (v := .int .i64 (IntKind.i64.wrap ((IntKind.i64.wrap ((IntKind.i64.wrap (264 + (IntKind.i64.wrap (208 * gw)))) + 8)) + 8))) (v' := .int .i64 (IntKind.i64.wrap ((IntKind.i64.wrap ((IntKind.i64.wrap (264 + (IntKind.i64.wrap (208 * gw)))) + 8)) + 8))) (by kernel_rfl) rfl ?_
 refine zE 1 (hK75 _ _ ?_)
 refine W.exit (exit_seq (exit_here ?_))
 refine hK65 _ _ ?_
 refine W.region ?_
 refine zE 2 ?_
 refine loopAt_next ?_
 refine loopAt_round ?_
 refine W.sr fun K76 hK76 => ?_
 refine zE 1 (hK76 _ _ ?_)
 refine W.seq fun K77 hK77 => ?_
 refine W.cond_true true (by kernel_rfl) rfl ?_
 refine W.skip ?_
 refine hK77 _ _ ?_
 refine W.seq fun K78 hK78 => ?_
 refine W.block ?_
 refine W.sr fun K79 hK79 => ?_
 refine zR 1 ?_
 refine zN [(.int .u8 0), (.int .i64 0), (.int .i64 0)] 105 hs72 fun b82 w80 hs81 => ?_
 refine ops_store (off := 0) (cs := [(.int .u8 0), (.int .i64 0), (.int .i64 0)]) (vs := [(.int .u8 8), (.int .i64 16), (.int .i64 gi)]) hs81 (by kernel_rfl) (by simp) rfl (fun w83 hs84 => ?_)
 have hs85 : St B w [] w83 [blk b82 (.cells [(.int .u8 8), (.int .i64 16), (.int .i64 gi)].toArray 105 (0, 0)), blk b69 (.cells [(.int .u8 7), (.int .i64 8), (.int .i64 1)].toArray 105 (0, 0)), blk b56 (.cells [(.int .u8 6), (.int .i64 8), (.int .i64 1)].toArray 105 (0, 0)), blk b43 (.cells [(.int .u8 5), (.int .i64 208), (.int .i64 gw)].toArray 105 (0, 0)), blk b30 (.cells [(.int .u8 2), (.int .i64 64), (.int .i64 4)].toArray 105 (0, 0)), blk b17 (.cells [(.int .u8 1), (.int .i64 8), (.int .i64 1)].toArray 105 (0, 0)), blk b4 (.cells [(.int .i64 gw), (.int .i64 gi), (.int .i64 gb)].toArray 23 (0, 0))] := hs84
 refine zD (hK79 _ _ ?_)
 refine W.seq fun K86 hK86 => ?_
 refine W.sr fun K87 hK87 => ?_
 refine zR 1 ?_
 refine zL ⟨b82, 0, none⟩ (.int .u8 8) (hs85.cellAt 0 rfl rfl) ?_
 refine zE 2 (hK87 _ _ ?_)
 refine W.cond_true true (by kernel_rfl) rfl ?_
 refine W.sr fun K88 hK88 => ?_
 refine zR 2 ?_
 refine zL ⟨b82, 1, none⟩ (.int .i64 16) (hs85.cellAt 0 rfl rfl) ?_
 refine zR 1 ?_
 refine zL ⟨b82, 2, none⟩ (.int .i64 gi) (hs85.cellAt 0 rfl rfl) ?_
 refine ops_val (v := .int .i64 (IntKind.i64.wrap (16 * gi))) (v' := .int .i64 (IntKind.i64.wrap (16 * gi))) (by kernel_rfl) rfl ?_
 refine ops_val (v := .int .i64 (IntKind.i64.wrap ((IntKind.i64.wrap ((IntKind.i64.wrap ((IntKind.i64.wrap (264 + (IntKind.i64.wrap (208 * gw)))) + 8)) + 8)) + (IntKind.i64.wrap (16 * gi))))) (v' := .int .i64 (IntKind.i64.wrap ((IntKind.i64.wrap ((IntKind.i64.wrap ((IntKind.i64.wrap (264 + (IntKind.i64.wrap (208 * gw)))) + 8)) + 8)) + (IntKind.i64.wrap (16 * gi))))) (by kernel_rfl) rfl ?_
 refine zE 1 (hK88 _ _ ?_)
 refine W.exit (exit_seq (exit_here ?_))
 refine hK78 _ _ ?_
 refine W.region ?_
 refine zE 2 ?_
 refine loopAt_next ?_
 refine loopAt_round ?_
 refine W.sr fun K89 hK89 => ?_
 refine zE 1 (hK89 _ _ ?_)
 refine W.seq fun K90 hK90 => ?_
 refine W.cond_true true (by kernel_rfl) rfl ?_
 refine W.skip ?_
 refine hK90 _ _ ?_
 refine W.seq fun K91 hK91 => ?_
 refine W.block ?_
 refine W.sr fun K92 hK92 => ?_
 refine zR 1 ?_
 refine zN [(.int .u8 0), (.int .i64 0), (.int .i64 0)] 105 hs85 fun b95 w93 hs94 => ?_
 refine ops_store (off := 0) (cs := [(.int .u8 0), (.int .i64 0), (.int .i64 0)]) (vs := [(.int .u8 9), (.int .i64 8), (.int .i64 gb)]) hs94 (by kernel_rfl) (by simp) rfl (fun w96 hs97 => ?_)
 have hs98 : St B w [] w96 [blk b95 (.cells [(.int .u8 9), (.int .i64 8), (.int .i64 gb)].toArray 105 (0, 0)), blk b82 (.cells [(.int .u8 8), (.int .i64 16), (.int .i64 gi)].toArray 105 (0, 0)), blk b69 (.cells [(.int .u8 7), (.int .i64 8), (.int .i64 1)].toArray 105 (0, 0)), blk b56 (.cells [(.int .u8 6), (.int .i64 8), (.int .i64 1)].toArray 105 (0, 0)), blk b43 (.cells [(.int .u8 5), (.int .i64 208), (.int .i64 gw)].toArray 105 (0, 0)), blk b30 (.cells [(.int .u8 2), (.int .i64 64), (.int .i64 4)].toArray 105 (0, 0)), blk b17 (.cells [(.int .u8 1), (.int .i64 8), (.int .i64 1)].toArray 105 (0, 0)), blk b4 (.cells [(.int .i64 gw), (.int .i64 gi), (.int .i64 gb)].toArray 23 (0, 0))] := hs97
 refine zD (hK92 _ _ ?_)
 refine W.seq fun K99 hK99 => ?_
 refine W.sr fun K100 hK100 => ?_
 refine zR 1 ?_
 refine zL ⟨b95, 0, none⟩ (.int .u8 9) (hs98.cellAt 0 rfl rfl) ?_
 refine zE 2 (hK100 _ _ ?_)
 refine W.cond_false false (by kernel_rfl) rfl ?_
 refine W.skip ?_
 refine hK99 _ _ ?_
 refine W.seq fun K101 hK101 => ?_
 refine W.sr fun K102 hK102 => ?_
 refine ops_R (runs_loadAgg (ad := ⟨b4, 0, none⟩) (cs := [(.int .i64 gw), (.int .i64 gi), (.int .i64 gb)]) (by kernel_rfl) (cells_sub (hs98.heapAt 7 rfl) rfl)) ?_
 refine zC00 hs98 (may_spec (gw := gw) (gi := gi) (gb := gb) B _) fun w103 hs105 => ?_
 refine zR 1 ?_
 rcases Bool.eq_false_or_eq_true (decide (May gw gi gb)) with h106 | h106
 ·
  have h106p := of_decide_eq_true h106
  refine zS 28 h106 ?_
  refine zS 27 h106 ?_
  refine zR 2 ?_
  refine zL ⟨b95, 2, none⟩ (.int .i64 gb) (hs105.cellAt 0 rfl rfl) ?_
  refine ops_val (v := .int .i64 (IntKind.i64.wrap (gb - 1))) (v' := .int .i64 (IntKind.i64.wrap (gb - 1))) (by kernel_rfl) rfl ?_
  refine zC00 hs105 (within_spec (n_ := n_) (f_ := 0) (t_ := (IntKind.i64.wrap (gb - 1))) B _) fun w107 hs109 => ?_
  refine zE 1 (hK102 _ _ ?_)
  refine W.cond (decide (0 ≤ n_ ∧ n_ ≤ (IntKind.i64.wrap (gb - 1)))) (by kernel_rfl) (fun h110 => ?_) (fun h110 => ?_)
  ·
   have h110p := of_decide_eq_true h110
   refine W.sr fun K111 hK111 => ?_
   refine zR 2 ?_
   refine zL ⟨b95, 1, none⟩ (.int .i64 8) (hs109.cellAt 0 rfl rfl) ?_
   refine zR 1 ?_
   refine ops_val (v := .int .i64 (IntKind.i64.wrap (8 * n_))) (v' := .int .i64 (IntKind.i64.wrap (8 * n_))) (by kernel_rfl) rfl ?_
   refine ops_val (v := .int .i64 (IntKind.i64.wrap ((IntKind.i64.wrap ((IntKind.i64.wrap ((IntKind.i64.wrap ((IntKind.i64.wrap (264 + (IntKind.i64.wrap (208 * gw)))) + 8)) + 8)) + (IntKind.i64.wrap (16 * gi)))) + (IntKind.i64.wrap (8 * n_))))) (v' := .int .i64 (IntKind.i64.wrap ((IntKind.i64.wrap ((IntKind.i64.wrap ((IntKind.i64.wrap ((IntKind.i64.wrap (264 + (IntKind.i64.wrap (208 * gw)))) + 8)) + 8)) + (IntKind.i64.wrap (16 * gi)))) + (IntKind.i64.wrap (8 * n_))))) (by kernel_rfl) rfl ?_
   refine zE 1 (hK111 _ _ ?_)
   refine W.ret (ret_seq (ret_block (ret_seq (ret_seq (ret_block (ret_seq ?_))))))
   have hs112 := St.tk0 hs109
   refine ret_of (.int .i64 (IntKind.i64.wrap ((IntKind.i64.wrap ((IntKind.i64.wrap ((IntKind.i64.wrap ((IntKind.i64.wrap (264 + (IntKind.i64.wrap (208 * gw)))) + 8)) + 8)) + (IntKind.i64.wrap (16 * gi)))) + (IntKind.i64.wrap (8 * n_))))) (by kernel_rfl) ⟨_, ⟨congrArg (Value.int .i64) (by first | contradiction | (simp only [placeOf, if_pos hm]; split <;> omega) | (simp only [placeOf, if_neg hm]; done) | (simp only [placeOf, if_pos hm]; omega)), rfl⟩, hs112⟩
  ·
   have h110p := of_decide_eq_false h110
   refine W.skip ?_
   refine hK101 _ _ ?_
   refine W.exit (exit_block (by decide) (exit_seq (exit_seq (exit_here ?_))))
   refine hK6 _ _ ?_
   refine W.sr fun K113 hK113 => ?_
   refine zE 1 (hK113 _ _ ?_)
   refine W.ret ?_
   have hs114 := St.tk0 hs109
   refine ret_of (.int .i64 (-1)) (by kernel_rfl) ⟨_, ⟨congrArg (Value.int .i64) (by first | contradiction | (simp only [placeOf, if_pos hm]; split <;> omega) | (simp only [placeOf, if_neg hm]; done) | (simp only [placeOf, if_pos hm]; omega)), rfl⟩, hs114⟩
 ·
  have h106p := of_decide_eq_false h106
  refine zS 28 h106 ?_
  refine zS 27 h106 ?_
  refine zE 6 (hK102 _ _ ?_)
  refine W.cond_false false (by kernel_rfl) rfl ?_
  refine W.skip ?_
  refine hK101 _ _ ?_
  refine W.exit (exit_block (by decide) (exit_seq (exit_seq (exit_here ?_))))
  refine hK6 _ _ ?_
  refine W.sr fun K115 hK115 => ?_
  refine zE 1 (hK115 _ _ ?_)
  refine W.ret ?_
  have hs116 := St.tk0 hs105
  refine ret_of (.int .i64 (-1)) (by kernel_rfl) ⟨_, ⟨congrArg (Value.int .i64) (by first | contradiction | (simp only [placeOf, if_pos hm]; split <;> omega) | (simp only [placeOf, if_neg hm]; done) | (simp only [placeOf, if_pos hm]; omega)), rfl⟩, hs116⟩

theorem place9_spec {gw gi gb n_ : Int} (B : Nat) (w : World) : Spec Tryd.prog 53 #[(.agg #[(.int .i64 gw), (.int .i64 gi), (.int .i64 gb)]), (.int .u8 9), (.int .i64 n_)] B w [] (fun v H' => v = .int .i64 (placeOf 9 gw gi gb n_) ∧ H' = []) := by
 by_cases hm : May gw gi gb
 · exact place9_may B w hm
 · exact place9_not B w hm

theorem inodeat_spec {gw gi gb n_ : Int} (B : Nat) (w : World) : Spec Tryd.prog 22 #[(.agg #[(.int .i64 gw), (.int .i64 gi), (.int .i64 gb)]), (.int .i64 n_)] B w [] (fun v H' => v = .int .i64 (placeOf 8 gw gi gb n_) ∧ H' = []) := by
 refine spec_Q Tryd.func22 rfl fun hs => ?_
 refine W.sr fun K1 hK1 => ?_
 refine zN [(.int .i64 gw), (.int .i64 gi), (.int .i64 gb)] 23 hs fun b4 w2 hs3 => ?_
 refine zE 1 (hK1 _ _ ?_)
 refine W.sr fun K5 hK5 => ?_
 refine ops_R (runs_loadAgg (ad := ⟨b4, 0, none⟩) (cs := [(.int .i64 gw), (.int .i64 gi), (.int .i64 gb)]) (by kernel_rfl) (cells_sub (hs3.heapAt 0 rfl) rfl)) ?_
 refine zR 1 ?_
 refine zC00 hs3 (place8_spec (gw := gw) (gi := gi) (gb := gb) (n_ := n_) B _) fun w6 hs8 => ?_
 refine zE 1 (hK5 _ _ ?_)
 refine W.ret ?_
 have hs9 := St.tk0 hs8
 refine ret_of (.int .i64 (placeOf 8 gw gi gb n_)) (by kernel_rfl) ⟨_, ⟨rfl, rfl⟩, hs9⟩

theorem areas_spec  (B : Nat) (w : World) : Spec Tryd.prog 94 #[] B w [] (fun v H' => v = .int .i64 264 ∧ H' = []) := by
 refine spec_Q Tryd.func94 rfl fun hs => ?_
 refine W.sr fun K1 hK1 => ?_
 refine zE 1 (hK1 _ _ ?_)
 refine W.sr fun K2 hK2 => ?_
 refine zE 1 (hK2 _ _ ?_)
 refine W.ret ?_
 refine ret_of (.int .i64 264) (by kernel_rfl) ⟨_, ⟨rfl, rfl⟩, hs⟩

theorem maps_spec {gw gi gb : Int} (B : Nat) (w : World) (hm : May gw gi gb) : Spec Tryd.prog 80 #[(.agg #[(.int .i64 gw), (.int .i64 gi), (.int .i64 gb)])] B w [] (fun v H' => v = .int .i64 (264 + 208 * gw) ∧ H' = []) := by
 refine spec_Q Tryd.func80 rfl fun hs => ?_
 have hm_ : (1 ≤ gw ∧ gw ≤ 4) ∧ (2 ≤ gi ∧ gi ≤ 64) ∧ (2 ≤ gb ∧ gb ≤ 512) := hm
 refine W.sr fun K1 hK1 => ?_
 refine zN [(.int .i64 gw), (.int .i64 gi), (.int .i64 gb)] 34 hs fun b4 w2 hs3 => ?_
 refine zE 1 (hK1 _ _ ?_)
 refine W.seq fun K5 hK5 => ?_
 have hs6 := hs3.drew
 refine W.regionD [(0, 0), (0, 0), (2, 2), (4, 4), (9, 9), (31, 16)] (fun w_ => St B w [] w_ [blk b4 (.cells [(.int .i64 gw), (.int .i64 gi), (.int .i64 gb)].toArray 34 (0, 0))]) (by kernel_rfl) hs6 ?_
 refine any_val (v := (.pointer (some ⟨b4, 0, none⟩))) (v' := (.pointer (some ⟨b4, 0, none⟩))) 1 (by kernel_rfl) (fun _ => by kernel_rfl) rfl hs6 ?_
 refine any_R 2 (by kernel_rfl) (fun _ hS_ => runs_load (ad := ⟨b4, 0, none⟩) (v := (.int .i64 gw)) (by kernel_rfl) (hS_.cellAt 0 rfl rfl)) hs6 ?_
 refine any_val (v := .int .i64 (IntKind.i64.wrap (208 * gw))) (v' := .int .i64 (208 * gw)) 3 (by kernel_rfl) (fun _ => by kernel_rfl) (congrArg (Value.int .i64) (wrap_i64 (by omega) (by omega))) hs6 ?_
 refine any_step 0 (by kernel_rfl) (by kernel_rfl) ?_
 refine zC00 hs6 (areas_spec B _) fun w7 hs9 => ?_
 refine ops_done (by kernel_rfl) ⟨hs9, ?_⟩
 refine any_val (v := .int .i64 (IntKind.i64.wrap (264 + (208 * gw)))) (v' := .int .i64 (264 + (208 * gw))) 4 (by kernel_rfl) (fun _ => by kernel_rfl) (congrArg (Value.int .i64) (wrap_i64 (by omega) (by omega))) hs9 ?_
 refine any_val (v := (.int .i64 (264 + (208 * gw)))) (v' := (.int .i64 (264 + (208 * gw)))) 5 (by kernel_rfl) (fun _ => by kernel_rfl) rfl hs9 ?_
 refine any_done (by kernel_rfl) ?_
 refine hK5 _ _ ?_
 refine W.ret ?_
 have hs10 := St.tk0 hs9
 refine ret_of (.int .i64 (264 + (208 * gw))) (by kernel_rfl) ⟨_, ⟨rfl, rfl⟩, hs10⟩

theorem rwords_spec {gw gi gb : Int} (B : Nat) (w : World) : Spec Tryd.prog 45 #[(.agg #[(.int .i64 gw), (.int .i64 gi), (.int .i64 gb)])] B w [] (fun v H' => v = .int .i64 (wordsOf gw gi gb) ∧ H' = []) := by
 refine spec_Q Tryd.func45 rfl fun hs => ?_
 refine W.sr fun K1 hK1 => ?_
 refine zN [(.int .i64 gw), (.int .i64 gi), (.int .i64 gb)] 34 hs fun b4 w2 hs3 => ?_
 refine zE 1 (hK1 _ _ ?_)
 refine W.seq fun K5 hK5 => ?_
 refine W.sr fun K6 hK6 => ?_
 refine ops_R (runs_loadAgg (ad := ⟨b4, 0, none⟩) (cs := [(.int .i64 gw), (.int .i64 gi), (.int .i64 gb)]) (by kernel_rfl) (cells_sub (hs3.heapAt 0 rfl) rfl)) ?_
 refine zC00 hs3 (rmay_spec (gw := gw) (gi := gi) (gb := gb) B _) fun w7 hs9 => ?_
 refine zE 1 (hK6 _ _ ?_)
 refine W.cond (!(decide (May gw gi gb))) (by kernel_rfl) (fun h10 => ?_) (fun h10 => ?_)
 ·
  have h10p : ¬ (May gw gi gb) := of_decide_eq_false (bnot_true h10)
  have hm : ¬ May gw gi gb := h10p
  refine W.sr fun K11 hK11 => ?_
  refine zE 1 (hK11 _ _ ?_)
  refine W.ret (ret_seq ?_)
  have hs12 := St.tk0 hs9
  refine ret_of (.int .i64 0) (by kernel_rfl) ⟨_, ⟨congrArg (Value.int .i64) (by first | contradiction | (simp only [wordsOf, if_pos hm]; omega) | (simp only [wordsOf, if_neg hm]; done)), rfl⟩, hs12⟩
 ·
  have h10p : May gw gi gb := of_decide_eq_true (bnot_false h10)
  have hm : May gw gi gb := h10p
  have hm_ : (1 ≤ gw ∧ gw ≤ 4) ∧ (2 ≤ gi ∧ gi ≤ 64) ∧ (2 ≤ gb ∧ gb ≤ 512) := hm
  refine W.skip ?_
  refine hK5 _ _ ?_
  refine W.seq fun K13 hK13 => ?_
  have hs14 := hs9.drew
  refine W.regionD [(0, 0), (1, 1), (2, 2), (0, 0), (8, 8), (16, 16), (36, 36), (0, 0), (128, 128), (256, 256), (576, 576), (2047, 1024)] (fun w_ => St B w [] w_ [blk b4 (.cells [(.int .i64 gw), (.int .i64 gi), (.int .i64 gb)].toArray 34 (0, 0))]) (by kernel_rfl) hs14 ?_
  refine any_R 0 (by kernel_rfl) (fun _ hS_ => runs_loadAgg (ad := ⟨b4, 0, none⟩) (cs := [(.int .i64 gw), (.int .i64 gi), (.int .i64 gb)]) (by kernel_rfl) (cells_sub (hS_.heapAt 0 rfl) rfl)) hs14 ?_
  refine any_val (v := (.pointer (some ⟨b4, 1, none⟩))) (v' := (.pointer (some ⟨b4, 1, none⟩))) 3 (by kernel_rfl) (fun _ => by kernel_rfl) rfl hs14 ?_
  refine any_R 4 (by kernel_rfl) (fun _ hS_ => runs_load (ad := ⟨b4, 1, none⟩) (v := (.int .i64 gi)) (by kernel_rfl) (hS_.cellAt 0 rfl rfl)) hs14 ?_
  refine any_val (v := .int .i64 (IntKind.i64.wrap (16 * gi))) (v' := .int .i64 (16 * gi)) 5 (by kernel_rfl) (fun _ => by kernel_rfl) (congrArg (Value.int .i64) (wrap_i64 (by omega) (by omega))) hs14 ?_
  refine any_val (v := (.pointer (some ⟨b4, 2, none⟩))) (v' := (.pointer (some ⟨b4, 2, none⟩))) 7 (by kernel_rfl) (fun _ => by kernel_rfl) rfl hs14 ?_
  refine any_R 8 (by kernel_rfl) (fun _ hS_ => runs_load (ad := ⟨b4, 2, none⟩) (v := (.int .i64 gb)) (by kernel_rfl) (hS_.cellAt 0 rfl rfl)) hs14 ?_
  refine any_val (v := .int .i64 (IntKind.i64.wrap (8 * gb))) (v' := .int .i64 (8 * gb)) 9 (by kernel_rfl) (fun _ => by kernel_rfl) (congrArg (Value.int .i64) (wrap_i64 (by omega) (by omega))) hs14 ?_
  refine any_step 1 (by kernel_rfl) (by kernel_rfl) ?_
  refine zC00 hs14 (maps_spec (hm := hm) (gw := gw) (gi := gi) (gb := gb) B _) fun w15 hs17 => ?_
  refine ops_done (by kernel_rfl) ⟨hs17, ?_⟩
  refine any_val (v := .int .i64 (IntKind.i64.wrap ((264 + 208 * gw) + 16))) (v' := .int .i64 ((264 + 208 * gw) + 16)) 2 (by kernel_rfl) (fun _ => by kernel_rfl) (congrArg (Value.int .i64) (wrap_i64 (by omega) (by omega))) hs17 ?_
  refine any_val (v := .int .i64 (IntKind.i64.wrap (((264 + 208 * gw) + 16) + (16 * gi)))) (v' := .int .i64 (((264 + 208 * gw) + 16) + (16 * gi))) 6 (by kernel_rfl) (fun _ => by kernel_rfl) (congrArg (Value.int .i64) (wrap_i64 (by omega) (by omega))) hs17 ?_
  refine any_val (v := .int .i64 (IntKind.i64.wrap ((((264 + 208 * gw) + 16) + (16 * gi)) + (8 * gb)))) (v' := .int .i64 ((((264 + 208 * gw) + 16) + (16 * gi)) + (8 * gb))) 10 (by kernel_rfl) (fun _ => by kernel_rfl) (congrArg (Value.int .i64) (wrap_i64 (by omega) (by omega))) hs17 ?_
  refine any_val (v := (.int .i64 ((((264 + 208 * gw) + 16) + (16 * gi)) + (8 * gb)))) (v' := (.int .i64 ((((264 + 208 * gw) + 16) + (16 * gi)) + (8 * gb)))) 11 (by kernel_rfl) (fun _ => by kernel_rfl) rfl hs17 ?_
  refine any_done (by kernel_rfl) ?_
  refine hK13 _ _ ?_
  refine W.ret ?_
  have hs18 := St.tk0 hs17
  refine ret_of (.int .i64 ((((264 + 208 * gw) + 16) + (16 * gi)) + (8 * gb))) (by kernel_rfl) ⟨_, ⟨congrArg (Value.int .i64) (by first | contradiction | (simp only [wordsOf, if_pos hm]; omega) | (simp only [wordsOf, if_neg hm]; done)), rfl⟩, hs18⟩

theorem rmapat_spec {gw gi gb : Int} (B : Nat) (w : World) : Spec Tryd.prog 46 #[(.agg #[(.int .i64 gw), (.int .i64 gi), (.int .i64 gb)])] B w [] (fun v H' => v = .int .i64 (placeOf 6 gw gi gb 0) ∧ H' = []) := by
 refine spec_Q Tryd.func46 rfl fun hs => ?_
 refine W.sr fun K1 hK1 => ?_
 refine zN [(.int .i64 gw), (.int .i64 gi), (.int .i64 gb)] 34 hs fun b4 w2 hs3 => ?_
 refine zE 1 (hK1 _ _ ?_)
 refine W.seq fun K5 hK5 => ?_
 refine W.sr fun K6 hK6 => ?_
 refine ops_R (runs_loadAgg (ad := ⟨b4, 0, none⟩) (cs := [(.int .i64 gw), (.int .i64 gi), (.int .i64 gb)]) (by kernel_rfl) (cells_sub (hs3.heapAt 0 rfl) rfl)) ?_
 refine zC00 hs3 (rmay_spec (gw := gw) (gi := gi) (gb := gb) B _) fun w7 hs9 => ?_
 refine zE 1 (hK6 _ _ ?_)
 refine W.cond (!(decide (May gw gi gb))) (by kernel_rfl) (fun h10 => ?_) (fun h10 => ?_)
 ·
  have h10p : ¬ (May gw gi gb) := of_decide_eq_false (bnot_true h10)
  have hm : ¬ May gw gi gb := h10p
  refine W.sr fun K11 hK11 => ?_
  refine zE 1 (hK11 _ _ ?_)
  refine W.ret (ret_seq ?_)
  have hs12 := St.tk0 hs9
  refine ret_of (.int .i64 (-1)) (by kernel_rfl) ⟨_, ⟨congrArg (Value.int .i64) (by first | contradiction | (simp only [placeOf, if_pos hm]; split <;> omega) | (simp only [placeOf, if_neg hm]; done) | (simp only [placeOf, if_pos hm]; omega)), rfl⟩, hs12⟩
 ·
  have h10p : May gw gi gb := of_decide_eq_true (bnot_false h10)
  have hm : May gw gi gb := h10p
  have hm_ : (1 ≤ gw ∧ gw ≤ 4) ∧ (2 ≤ gi ∧ gi ≤ 64) ∧ (2 ≤ gb ∧ gb ≤ 512) := hm
  refine W.skip ?_
  refine hK5 _ _ ?_
  refine W.sr fun K13 hK13 => ?_
  refine ops_R (runs_loadAgg (ad := ⟨b4, 0, none⟩) (cs := [(.int .i64 gw), (.int .i64 gi), (.int .i64 gb)]) (by kernel_rfl) (cells_sub (hs9.heapAt 0 rfl) rfl)) ?_
  refine zC00 hs9 (maps_spec (hm := hm) (gw := gw) (gi := gi) (gb := gb) B _) fun w14 hs16 => ?_
  refine zE 1 (hK13 _ _ ?_)
  refine W.ret ?_
  have hs17 := St.tk0 hs16
  refine ret_of (.int .i64 (264 + 208 * gw)) (by kernel_rfl) ⟨_, ⟨congrArg (Value.int .i64) (by first | contradiction | (simp only [placeOf, if_pos hm]; split <;> omega) | (simp only [placeOf, if_neg hm]; done) | (simp only [placeOf, if_pos hm]; omega)), rfl⟩, hs17⟩

theorem rbmapat_spec {gw gi gb : Int} (B : Nat) (w : World) : Spec Tryd.prog 47 #[(.agg #[(.int .i64 gw), (.int .i64 gi), (.int .i64 gb)])] B w [] (fun v H' => v = .int .i64 (placeOf 7 gw gi gb 0) ∧ H' = []) := by
 refine spec_Q Tryd.func47 rfl fun hs => ?_
 refine W.sr fun K1 hK1 => ?_
 refine zN [(.int .i64 gw), (.int .i64 gi), (.int .i64 gb)] 34 hs fun b4 w2 hs3 => ?_
 refine zE 1 (hK1 _ _ ?_)
 refine W.seq fun K5 hK5 => ?_
 refine W.sr fun K6 hK6 => ?_
 refine ops_R (runs_loadAgg (ad := ⟨b4, 0, none⟩) (cs := [(.int .i64 gw), (.int .i64 gi), (.int .i64 gb)]) (by kernel_rfl) (cells_sub (hs3.heapAt 0 rfl) rfl)) ?_
 refine zC00 hs3 (rmay_spec (gw := gw) (gi := gi) (gb := gb) B _) fun w7 hs9 => ?_
 refine zE 1 (hK6 _ _ ?_)
 refine W.cond (!(decide (May gw gi gb))) (by kernel_rfl) (fun h10 => ?_) (fun h10 => ?_)
 ·
  have h10p : ¬ (May gw gi gb) := of_decide_eq_false (bnot_true h10)
  have hm : ¬ May gw gi gb := h10p
  refine W.sr fun K11 hK11 => ?_
  refine zE 1 (hK11 _ _ ?_)
  refine W.ret (ret_seq ?_)
  have hs12 := St.tk0 hs9
  refine ret_of (.int .i64 (-1)) (by kernel_rfl) ⟨_, ⟨congrArg (Value.int .i64) (by first | contradiction | (simp only [placeOf, if_pos hm]; split <;> omega) | (simp only [placeOf, if_neg hm]; done) | (simp only [placeOf, if_pos hm]; omega)), rfl⟩, hs12⟩
 ·
  have h10p : May gw gi gb := of_decide_eq_true (bnot_false h10)
  have hm : May gw gi gb := h10p
  have hm_ : (1 ≤ gw ∧ gw ≤ 4) ∧ (2 ≤ gi ∧ gi ≤ 64) ∧ (2 ≤ gb ∧ gb ≤ 512) := hm
  refine W.skip ?_
  refine hK5 _ _ ?_
  refine W.sr fun K13 hK13 => ?_
  refine ops_R (runs_loadAgg (ad := ⟨b4, 0, none⟩) (cs := [(.int .i64 gw), (.int .i64 gi), (.int .i64 gb)]) (by kernel_rfl) (cells_sub (hs9.heapAt 0 rfl) rfl)) ?_
  refine zC00 hs9 (maps_spec (hm := hm) (gw := gw) (gi := gi) (gb := gb) B _) fun w14 hs16 => ?_
  refine zI ((264 + 208 * gw) + 8) (wrap_i64 (by omega) (by omega)) ?_
  refine zE 1 (hK13 _ _ ?_)
  refine W.ret ?_
  have hs17 := St.tk0 hs16
  refine ret_of (.int .i64 ((264 + 208 * gw) + 8)) (by kernel_rfl) ⟨_, ⟨congrArg (Value.int .i64) (by first | contradiction | (simp only [placeOf, if_pos hm]; split <;> omega) | (simp only [placeOf, if_neg hm]; done) | (simp only [placeOf, if_pos hm]; omega)), rfl⟩, hs17⟩

theorem rinodeat_spec {gw gi gb n_ : Int} (B : Nat) (w : World) : Spec Tryd.prog 48 #[(.agg #[(.int .i64 gw), (.int .i64 gi), (.int .i64 gb)]), (.int .i64 n_)] B w [] (fun v H' => v = .int .i64 (placeOf 8 gw gi gb n_) ∧ H' = []) := by
 refine spec_Q Tryd.func48 rfl fun hs => ?_
 refine W.sr fun K1 hK1 => ?_
 refine zN [(.int .i64 gw), (.int .i64 gi), (.int .i64 gb)] 34 hs fun b4 w2 hs3 => ?_
 refine zE 1 (hK1 _ _ ?_)
 refine W.seq fun K5 hK5 => ?_
 refine W.sr fun K6 hK6 => ?_
 refine ops_R (runs_loadAgg (ad := ⟨b4, 0, none⟩) (cs := [(.int .i64 gw), (.int .i64 gi), (.int .i64 gb)]) (by kernel_rfl) (cells_sub (hs3.heapAt 0 rfl) rfl)) ?_
 refine zC00 hs3 (rmay_spec (gw := gw) (gi := gi) (gb := gb) B _) fun w7 hs9 => ?_
 refine zR 2 ?_
 rcases Bool.eq_false_or_eq_true (!(decide (May gw gi gb))) with h10 | h10
 ·
  have h10p : ¬ (May gw gi gb) := of_decide_eq_false (bnot_true h10)
  refine zS 8 h10 ?_
  refine zS 7 h10 ?_
  refine zE 9 (hK6 _ _ ?_)
  refine W.cond_true true (by kernel_rfl) rfl ?_
  refine W.sr fun K11 hK11 => ?_
  refine zE 1 (hK11 _ _ ?_)
  refine W.ret (ret_seq ?_)
  have hs12 := St.tk0 hs9
  refine ret_of (.int .i64 (-1)) (by kernel_rfl) ⟨_, ⟨congrArg (Value.int .i64) (by by_cases hm : May gw gi gb <;> first | contradiction | (have hm_ : (1 ≤ gw ∧ gw ≤ 4) ∧ (2 ≤ gi ∧ gi ≤ 64) ∧ (2 ≤ gb ∧ gb ≤ 512) := hm; simp only [placeOf, if_pos hm]; split <;> omega) | (simp only [placeOf, if_neg hm]; done)), rfl⟩, hs12⟩
 ·
  have h10p : May gw gi gb := of_decide_eq_true (bnot_false h10)
  have hm : May gw gi gb := h10p
  have hm_ : (1 ≤ gw ∧ gw ≤ 4) ∧ (2 ≤ gi ∧ gi ≤ 64) ∧ (2 ≤ gb ∧ gb ≤ 512) := hm
  refine zS 8 h10 ?_
  refine zS 7 h10 ?_
  refine zR 4 ?_
  rcases Bool.eq_false_or_eq_true (decide (n_ < 0)) with h13 | h13
  ·
   have h13p := of_decide_eq_true h13
   refine zS 12 h13 ?_
   refine zS 10 h13 ?_
   refine zS 11 h13 ?_
   refine zE 5 (hK6 _ _ ?_)
   refine W.cond_true true (by kernel_rfl) rfl ?_
   refine W.sr fun K14 hK14 => ?_
   refine zE 1 (hK14 _ _ ?_)
   refine W.ret (ret_seq ?_)
   have hs15 := St.tk0 hs9
   refine ret_of (.int .i64 (-1)) (by kernel_rfl) ⟨_, ⟨congrArg (Value.int .i64) (by by_cases hm : May gw gi gb <;> first | contradiction | (have hm_ : (1 ≤ gw ∧ gw ≤ 4) ∧ (2 ≤ gi ∧ gi ≤ 64) ∧ (2 ≤ gb ∧ gb ≤ 512) := hm; simp only [placeOf, if_pos hm]; split <;> omega) | (simp only [placeOf, if_neg hm]; done)), rfl⟩, hs15⟩
  ·
   have h13p := of_decide_eq_false h13
   refine zS 12 h13 ?_
   refine zS 10 h13 ?_
   refine zS 11 h13 ?_
   refine zR 2 ?_
   refine zL ⟨b4, 1, none⟩ (.int .i64 gi) (hs9.cellAt 0 rfl rfl) ?_
   refine zE 2 (hK6 _ _ ?_)
   refine W.cond (decide (n_ ≥ gi)) (by kernel_rfl) (fun h16 => ?_) (fun h16 => ?_)
   ·
    have h16p := of_decide_eq_true h16
    refine W.sr fun K17 hK17 => ?_
    refine zE 1 (hK17 _ _ ?_)
    refine W.ret (ret_seq ?_)
    have hs18 := St.tk0 hs9
    refine ret_of (.int .i64 (-1)) (by kernel_rfl) ⟨_, ⟨congrArg (Value.int .i64) (by by_cases hm : May gw gi gb <;> first | contradiction | (have hm_ : (1 ≤ gw ∧ gw ≤ 4) ∧ (2 ≤ gi ∧ gi ≤ 64) ∧ (2 ≤ gb ∧ gb ≤ 512) := hm; simp only [placeOf, if_pos hm]; split <;> omega) | (simp only [placeOf, if_neg hm]; done)), rfl⟩, hs18⟩
   ·
    have h16p := of_decide_eq_false h16
    refine W.skip ?_
    refine hK5 _ _ ?_
    refine W.sr fun K19 hK19 => ?_
    refine ops_R (runs_loadAgg (ad := ⟨b4, 0, none⟩) (cs := [(.int .i64 gw), (.int .i64 gi), (.int .i64 gb)]) (by kernel_rfl) (cells_sub (hs9.heapAt 0 rfl) rfl)) ?_
    refine zC00 hs9 (maps_spec (hm := hm) (gw := gw) (gi := gi) (gb := gb) B _) fun w20 hs22 => ?_
    refine zI ((264 + 208 * gw) + 16) (wrap_i64 (by omega) (by omega)) ?_
    refine zR 1 ?_
    refine zI (16 * n_) (wrap_i64 (by omega) (by omega)) ?_
    refine zI (((264 + 208 * gw) + 16) + (16 * n_)) (wrap_i64 (by omega) (by omega)) ?_
    refine zE 1 (hK19 _ _ ?_)
    refine W.ret ?_
    have hs23 := St.tk0 hs22
    refine ret_of (.int .i64 (((264 + 208 * gw) + 16) + (16 * n_))) (by kernel_rfl) ⟨_, ⟨congrArg (Value.int .i64) (by by_cases hm : May gw gi gb <;> first | contradiction | (have hm_ : (1 ≤ gw ∧ gw ≤ 4) ∧ (2 ≤ gi ∧ gi ≤ 64) ∧ (2 ≤ gb ∧ gb ≤ 512) := hm; simp only [placeOf, if_pos hm]; split <;> omega) | (simp only [placeOf, if_neg hm]; done)), rfl⟩, hs23⟩

end Go.Proofs.YtmmclabkkigiaaaDoor

set_option maxRecDepth 20000
namespace Go.Proofs.YtmmclabkkigiaaaDoor
open Go Go.RowKit
set_option linter.unusedSimpArgs false
set_option linter.unusedVariables false

theorem format_spec {gw gi gb : Int} (B : Nat) (w : World) : Spec Tryd.prog 15 #[(.agg #[(.int .i64 gw), (.int .i64 gi), (.int .i64 gb)])] B w [] (fun v H' => ∃ a' c', v = .slice a' (fmtW gw gi gb).length c' ∧ H' = [kU64.row a' c' (fmtW gw gi gb)]) := by
 refine spec_Q Tryd.func15 rfl fun hs => ?_
 refine W.sr fun K1 hK1 => ?_
 refine zN [(.int .i64 gw), (.int .i64 gi), (.int .i64 gb)] 34 hs fun b4 w2 hs3 => ?_
 refine zE 1 (hK1 _ _ ?_)
 refine W.seq fun K5 hK5 => ?_
 refine W.sr fun K6 hK6 => ?_
 refine ops_R (runs_loadAgg (ad := ⟨b4, 0, none⟩) (cs := [(.int .i64 gw), (.int .i64 gi), (.int .i64 gb)]) (by kernel_rfl) (cells_sub (hs3.heapAt 0 rfl) rfl)) ?_
 refine zC00 hs3 (rmay_spec (gw := gw) (gi := gi) (gb := gb) B _) fun w7 hs9 => ?_
 refine zE 1 (hK6 _ _ ?_)
 refine W.cond (!(decide (May gw gi gb))) (by kernel_rfl) (fun h10 => ?_) (fun h10 => ?_)
 ·
  have h10p : ¬ (May gw gi gb) := of_decide_eq_false (bnot_true h10)
  refine W.sr fun K11 hK11 => ?_
  refine zE 1 (hK11 _ _ ?_)
  refine W.ret (ret_seq ?_)
  have hs12 := St.tk0 hs9
  have hk := St.knil kU64 hs12
  have e_ : fmtW gw gi gb = [] := if_neg (by assumption)
  refine ret_of (.slice none 0 0) (by kernel_rfl) ⟨_, ⟨none, 0, by rw [e_]; rfl, by rw [e_]⟩, hk⟩
 ·
  have h10p : May gw gi gb := of_decide_eq_true (bnot_false h10)
  have hm : May gw gi gb := h10p
  have hm_ : (1 ≤ gw ∧ gw ≤ 4) ∧ (2 ≤ gi ∧ gi ≤ 64) ∧ (2 ≤ gb ∧ gb ≤ 512) := hm
  have hwd := words_may hm
  have hp6 := place6 hm
  have hp7 := place7 hm
  have hp8 := place8_in (n := 1) hm (by omega)
  refine W.skip ?_
  refine hK5 _ _ ?_
  refine W.sr fun K13 hK13 => ?_
  refine ops_R (runs_loadAgg (ad := ⟨b4, 0, none⟩) (cs := [(.int .i64 gw), (.int .i64 gi), (.int .i64 gb)]) (by kernel_rfl) (cells_sub (hs9.heapAt 0 rfl) rfl)) ?_
  refine zC00 hs9 (rwords_spec (gw := gw) (gi := gi) (gb := gb) B _) fun w14 hs16 => ?_
  refine ops_makeSlice kU64 0 (z := (wordsOf gw gi gb)) (bytes := 8) ((wordsOf gw gi gb).toNat) (by omega) hs16 (by kernel_rfl) (by omega) (by unfold maxLen; omega) (fun b17 w18 hs19 => ?_)
  refine zE 1 (hK13 _ _ ?_)
  refine W.sr fun K20 hK20 => ?_
  refine zR 1 ?_
  have hk21 : 0 < (wordsOf gw gi gb).toNat := by omega
  have hk22 : 0 < (List.replicate ((wordsOf gw gi gb).toNat) (0 : Int)).length := by simp only [List.length_set, List.length_replicate]; exact hk21
  refine ops_R (runs_index (a := (some ⟨b17, 0, none⟩)) (n := (wordsOf gw gi gb).toNat) (z := 0) (size := 1) 0 rfl hk21 (kU64.addr (St.kcells kU64 hs19 0 rfl) hk22) (by kernel_rfl)) ?_
  refine ops_storeK kU64 (j := 0) (vs := [(.int .u64 32762617960297063)]) 0 32762617960297063 hs19 hk22 (Nat.le_of_ble_eq_true rfl) (by simp) rfl rfl (by kernel_rfl) (fun w23 hs24 => ?_)
  refine zD (hK20 _ _ ?_)
  refine W.sr fun K26 hK26 => ?_
  refine zR 2 ?_
  refine zL ⟨b4, 0, none⟩ (.int .i64 gw) (hs24.cellAt 1 rfl rfl) ?_
  refine zI gw (wrap_u64 (by omega) (by omega)) ?_
  have hk27 : 1 < (wordsOf gw gi gb).toNat := by omega
  have hk28 : 1 < ((List.replicate ((wordsOf gw gi gb).toNat) (0 : Int)).set 0 32762617960297063).length := by simp only [List.length_set, List.length_replicate]; exact hk27
  refine ops_R (runs_index (a := (some ⟨b17, 0, none⟩)) (n := (wordsOf gw gi gb).toNat) (z := 1) (size := 1) 1 rfl hk27 (kU64.addr (St.kcells kU64 hs24 0 rfl) hk28) (by kernel_rfl)) ?_
  refine ops_storeK kU64 (j := 0) (vs := [(.int .u64 gw)]) 0 gw hs24 hk28 (Nat.le_of_ble_eq_true rfl) (by simp) rfl rfl (by kernel_rfl) (fun w29 hs30 => ?_)
  refine zD (hK26 _ _ ?_)
  refine W.sr fun K32 hK32 => ?_
  refine zR 2 ?_
  refine zL ⟨b4, 1, none⟩ (.int .i64 gi) (hs30.cellAt 1 rfl rfl) ?_
  refine zI gi (wrap_u64 (by omega) (by omega)) ?_
  have hk33 : 2 < (wordsOf gw gi gb).toNat := by omega
  have hk34 : 2 < (((List.replicate ((wordsOf gw gi gb).toNat) (0 : Int)).set 0 32762617960297063).set 1 gw).length := by simp only [List.length_set, List.length_replicate]; exact hk33
  refine ops_R (runs_index (a := (some ⟨b17, 0, none⟩)) (n := (wordsOf gw gi gb).toNat) (z := 2) (size := 1) 2 rfl hk33 (kU64.addr (St.kcells kU64 hs30 0 rfl) hk34) (by kernel_rfl)) ?_
  refine ops_storeK kU64 (j := 0) (vs := [(.int .u64 gi)]) 0 gi hs30 hk34 (Nat.le_of_ble_eq_true rfl) (by simp) rfl rfl (by kernel_rfl) (fun w35 hs36 => ?_)
  refine zD (hK32 _ _ ?_)
  refine W.sr fun K38 hK38 => ?_
  refine zR 2 ?_
  refine zL ⟨b4, 2, none⟩ (.int .i64 gb) (hs36.cellAt 1 rfl rfl) ?_
  refine zI gb (wrap_u64 (by omega) (by omega)) ?_
  have hk39 : 3 < (wordsOf gw gi gb).toNat := by omega
  have hk40 : 3 < ((((List.replicate ((wordsOf gw gi gb).toNat) (0 : Int)).set 0 32762617960297063).set 1 gw).set 2 gi).length := by simp only [List.length_set, List.length_replicate]; exact hk39
  refine ops_R (runs_index (a := (some ⟨b17, 0, none⟩)) (n := (wordsOf gw gi gb).toNat) (z := 3) (size := 1) 3 rfl hk39 (kU64.addr (St.kcells kU64 hs36 0 rfl) hk40) (by kernel_rfl)) ?_
  refine ops_storeK kU64 (j := 0) (vs := [(.int .u64 gb)]) 0 gb hs36 hk40 (Nat.le_of_ble_eq_true rfl) (by simp) rfl rfl (by kernel_rfl) (fun w41 hs42 => ?_)
  refine zD (hK38 _ _ ?_)
  refine W.sr fun K44 hK44 => ?_
  refine zR 1 ?_
  refine ops_R (runs_loadAgg (ad := ⟨b4, 0, none⟩) (cs := [(.int .i64 gw), (.int .i64 gi), (.int .i64 gb)]) (by kernel_rfl) (cells_sub (hs42.heapAt 1 rfl) rfl)) ?_
  refine zC00 hs42 (rmapat_spec (gw := gw) (gi := gi) (gb := gb) B _) fun w45 hs47 => ?_
  have hk48 : (placeOf 6 gw gi gb 0).toNat < (wordsOf gw gi gb).toNat := by omega
  have hk49 : (placeOf 6 gw gi gb 0).toNat < (((((List.replicate ((wordsOf gw gi gb).toNat) (0 : Int)).set 0 32762617960297063).set 1 gw).set 2 gi).set 3 gb).length := by simp only [List.length_set, List.length_replicate]; exact hk48
  refine ops_R (runs_index (a := (some ⟨b17, 0, none⟩)) (n := (wordsOf gw gi gb).toNat) (z := (placeOf 6 gw gi gb 0)) (size := 1) ((placeOf 6 gw gi gb 0).toNat) (by omega) hk48 (kU64.addr (St.kcells kU64 hs47 0 rfl) hk49) (by kernel_rfl)) ?_
  refine ops_storeK kU64 (j := 0) (vs := [(.int .u64 3)]) 0 3 hs47 hk49 (Nat.le_of_ble_eq_true rfl) (by simp) rfl rfl (by kernel_rfl) (fun w50 hs51 => ?_)
  refine zD (hK44 _ _ ?_)
  refine W.sr fun K53 hK53 => ?_
  refine zR 1 ?_
  refine ops_R (runs_loadAgg (ad := ⟨b4, 0, none⟩) (cs := [(.int .i64 gw), (.int .i64 gi), (.int .i64 gb)]) (by kernel_rfl) (cells_sub (hs51.heapAt 1 rfl) rfl)) ?_
  refine zC00 hs51 (rbmapat_spec (gw := gw) (gi := gi) (gb := gb) B _) fun w54 hs56 => ?_
  have hk57 : (placeOf 7 gw gi gb 0).toNat < (wordsOf gw gi gb).toNat := by omega
  have hk58 : (placeOf 7 gw gi gb 0).toNat < ((((((List.replicate ((wordsOf gw gi gb).toNat) (0 : Int)).set 0 32762617960297063).set 1 gw).set 2 gi).set 3 gb).set ((placeOf 6 gw gi gb 0).toNat) 3).length := by simp only [List.length_set, List.length_replicate]; exact hk57
  refine ops_R (runs_index (a := (some ⟨b17, 0, none⟩)) (n := (wordsOf gw gi gb).toNat) (z := (placeOf 7 gw gi gb 0)) (size := 1) ((placeOf 7 gw gi gb 0).toNat) (by omega) hk57 (kU64.addr (St.kcells kU64 hs56 0 rfl) hk58) (by kernel_rfl)) ?_
  refine ops_storeK kU64 (j := 0) (vs := [(.int .u64 1)]) 0 1 hs56 hk58 (Nat.le_of_ble_eq_true rfl) (by simp) rfl rfl (by kernel_rfl) (fun w59 hs60 => ?_)
  refine zD (hK53 _ _ ?_)
  refine W.sr fun K62 hK62 => ?_
  refine zR 1 ?_
  refine ops_R (runs_loadAgg (ad := ⟨b4, 0, none⟩) (cs := [(.int .i64 gw), (.int .i64 gi), (.int .i64 gb)]) (by kernel_rfl) (cells_sub (hs60.heapAt 1 rfl) rfl)) ?_
  refine zC00 hs60 (rinodeat_spec (gw := gw) (gi := gi) (gb := gb) (n_ := 1) B _) fun w63 hs65 => ?_
  have hk66 : (placeOf 8 gw gi gb 1).toNat < (wordsOf gw gi gb).toNat := by omega
  have hk67 : (placeOf 8 gw gi gb 1).toNat < (((((((List.replicate ((wordsOf gw gi gb).toNat) (0 : Int)).set 0 32762617960297063).set 1 gw).set 2 gi).set 3 gb).set ((placeOf 6 gw gi gb 0).toNat) 3).set ((placeOf 7 gw gi gb 0).toNat) 1).length := by simp only [List.length_set, List.length_replicate]; exact hk66
  refine ops_R (runs_index (a := (some ⟨b17, 0, none⟩)) (n := (wordsOf gw gi gb).toNat) (z := (placeOf 8 gw gi gb 1)) (size := 1) ((placeOf 8 gw gi gb 1).toNat) (by omega) hk66 (kU64.addr (St.kcells kU64 hs65 0 rfl) hk67) (by kernel_rfl)) ?_
  refine ops_storeK kU64 (j := 0) (vs := [(.int .u64 2)]) 0 2 hs65 hk67 (Nat.le_of_ble_eq_true rfl) (by simp) rfl rfl (by kernel_rfl) (fun w68 hs69 => ?_)
  refine zD (hK62 _ _ ?_)
  refine W.sr fun K71 hK71 => ?_
  refine zR 1 ?_
  refine ops_R (runs_loadAgg (ad := ⟨b4, 0, none⟩) (cs := [(.int .i64 gw), (.int .i64 gi), (.int .i64 gb)]) (by kernel_rfl) (cells_sub (hs69.heapAt 1 rfl) rfl)) ?_
  refine zC00 hs69 (rinodeat_spec (gw := gw) (gi := gi) (gb := gb) (n_ := 1) B _) fun w72 hs74 => ?_
  refine zI ((placeOf 8 gw gi gb 1) + 1) (wrap_i64 (by omega) (by omega)) ?_
  have hk75 : ((placeOf 8 gw gi gb 1) + 1).toNat < (wordsOf gw gi gb).toNat := by omega
  have hk76 : ((placeOf 8 gw gi gb 1) + 1).toNat < ((((((((List.replicate ((wordsOf gw gi gb).toNat) (0 : Int)).set 0 32762617960297063).set 1 gw).set 2 gi).set 3 gb).set ((placeOf 6 gw gi gb 0).toNat) 3).set ((placeOf 7 gw gi gb 0).toNat) 1).set ((placeOf 8 gw gi gb 1).toNat) 2).length := by simp only [List.length_set, List.length_replicate]; exact hk75
  refine ops_R (runs_index (a := (some ⟨b17, 0, none⟩)) (n := (wordsOf gw gi gb).toNat) (z := ((placeOf 8 gw gi gb 1) + 1)) (size := 1) (((placeOf 8 gw gi gb 1) + 1).toNat) (by omega) hk75 (kU64.addr (St.kcells kU64 hs74 0 rfl) hk76) (by kernel_rfl)) ?_
  refine ops_storeK kU64 (j := 0) (vs := [(.int .u64 1)]) 0 1 hs74 hk76 (Nat.le_of_ble_eq_true rfl) (by simp) rfl rfl (by kernel_rfl) (fun w77 hs78 => ?_)
  refine zD (hK71 _ _ ?_)
  refine W.sr fun K80 hK80 => ?_
  refine zE 2 (hK80 _ _ ?_)
  refine W.ret ?_
  have hs81 := St.tk1 hs78
  have e_ : (((((((((List.replicate ((wordsOf gw gi gb).toNat) (0 : Int)).set 0 32762617960297063).set 1 gw).set 2 gi).set 3 gb).set ((placeOf 6 gw gi gb 0).toNat) 3).set ((placeOf 7 gw gi gb 0).toNat) 1).set ((placeOf 8 gw gi gb 1).toNat) 2).set (((placeOf 8 gw gi gb 1) + 1).toNat) 1) = fmtW gw gi gb := (if_pos hm).symm
  have hs_ := hs81
  rw [e_] at hs_
  refine ret_of (.slice (some ⟨b17, 0, none⟩) ((wordsOf gw gi gb).toNat) ((wordsOf gw gi gb).toNat)) (by kernel_rfl) ⟨_, ⟨(some ⟨b17, 0, none⟩), (wordsOf gw gi gb).toNat, by rw [fmtW_len], rfl⟩, hs_⟩

theorem small_spec {x_ y_ : Int} (B : Nat) (w : World) (hx : 0 ≤ x_ ∧ x_ ≤ 255) (hy : 0 ≤ y_ ∧ y_ ≤ 255) : Spec Tryd.prog 16 #[(.int .u8 x_), (.int .u8 y_)] B w [] (fun v H' => v = .agg #[.int .i64 1, .int .i64 (2 + x_ % 20), .int .i64 (2 + y_ % 60)] ∧ H' = []) := by
 refine spec_Q Tryd.func16 rfl fun hs => ?_
 refine W.sr fun K1 hK1 => ?_
 refine zN [(.int .i64 0), (.int .i64 0), (.int .i64 0)] 23 hs fun b4 w2 hs3 => ?_
 refine zD (hK1 _ _ ?_)
 refine W.sr fun K5 hK5 => ?_
 refine zR 1 ?_
 refine zI x_ (wrap_i64 (by omega) (by omega)) ?_
 obtain ⟨r6, hr7, hl8, he9⟩ := rem_nat (x := x_) (y := 20) (by omega) (by omega)
 refine ops_R (v := .int .i64 (r6 : Int)) (runs_rem (k := .i64) (a := x_) (b := 20) (by kernel_rfl) (by omega) hr7) ?_
 refine zI (2 + (r6 : Int)) (wrap_i64 (by omega) (by omega)) ?_
 refine zR 1 ?_
 refine zI y_ (wrap_i64 (by omega) (by omega)) ?_
 obtain ⟨r10, hr11, hl12, he13⟩ := rem_nat (x := y_) (y := 60) (by omega) (by omega)
 refine ops_R (v := .int .i64 (r10 : Int)) (runs_rem (k := .i64) (a := y_) (b := 60) (by kernel_rfl) (by omega) hr11) ?_
 refine zI (2 + (r10 : Int)) (wrap_i64 (by omega) (by omega)) ?_
 refine zR 1 ?_
 refine ops_store (off := 0) (cs := [(.int .i64 0), (.int .i64 0), (.int .i64 0)]) (vs := [(.int .i64 1), (.int .i64 (2 + (r6 : Int))), (.int .i64 (2 + (r10 : Int)))]) hs3 (by kernel_rfl) (by simp) rfl (fun w14 hs15 => ?_)
 have hs16 : St B w [] w14 [blk b4 (.cells [(.int .i64 1), (.int .i64 (2 + (r6 : Int))), (.int .i64 (2 + (r10 : Int)))].toArray 23 (0, 0))] := hs15
 refine zD (hK5 _ _ ?_)
 refine W.ret ?_
 have hs17 := St.tk0 hs16
 refine ret_of (.agg #[(.int .i64 1), (.int .i64 (2 + (r6 : Int))), (.int .i64 (2 + (r10 : Int)))]) (results_cell (ad := ⟨b4, 0, none⟩) (cs := [(.int .i64 1), (.int .i64 (2 + (r6 : Int))), (.int .i64 (2 + (r10 : Int)))]) rfl (by kernel_rfl) (by kernel_rfl) (cells_sub (hs16.heapAt 0 rfl) rfl)) ⟨_, ⟨by simp only [*], rfl⟩, hs17⟩

end Go.Proofs.YtmmclabkkigiaaaDoor

set_option maxRecDepth 20000
namespace Go.Proofs.YtmmclabkkigiaaaDoor
open Go Go.RowKit
set_option linter.unusedSimpArgs false
set_option linter.unusedVariables false

theorem blockat_spec {gw gi gb n_ : Int} (B : Nat) (w : World) : Spec Tryd.prog 26 #[(.agg #[(.int .i64 gw), (.int .i64 gi), (.int .i64 gb)]), (.int .i64 n_)] B w [] (fun v H' => v = .int .i64 (placeOf 9 gw gi gb n_) ∧ H' = []) := by
 refine spec_Q Tryd.func26 rfl fun hs => ?_
 refine W.sr fun K1 hK1 => ?_
 refine zN [(.int .i64 gw), (.int .i64 gi), (.int .i64 gb)] 23 hs fun b4 w2 hs3 => ?_
 refine zE 1 (hK1 _ _ ?_)
 refine W.sr fun K5 hK5 => ?_
 refine ops_R (runs_loadAgg (ad := ⟨b4, 0, none⟩) (cs := [(.int .i64 gw), (.int .i64 gi), (.int .i64 gb)]) (by kernel_rfl) (cells_sub (hs3.heapAt 0 rfl) rfl)) ?_
 refine zR 1 ?_
 refine zC00 hs3 (place9_spec (gw := gw) (gi := gi) (gb := gb) (n_ := n_) B _) fun w6 hs8 => ?_
 refine zE 1 (hK5 _ _ ?_)
 refine W.ret ?_
 have hs9 := St.tk0 hs8
 refine ret_of (.int .i64 (placeOf 9 gw gi gb n_)) (by kernel_rfl) ⟨_, ⟨rfl, rfl⟩, hs9⟩

theorem lmap6_spec {gw gi gb : Int} (B : Nat) (w : World) : Spec Tryd.prog 59 #[(.agg #[(.int .i64 gw), (.int .i64 gi), (.int .i64 gb)])] B w [] (fun v H' => v = .int .i64 (placeOf 6 gw gi gb 0) ∧ H' = []) := by
 refine spec_Q Tryd.func59 rfl fun hs => ?_
 refine W.sr fun K1 hK1 => ?_
 refine zN [(.int .i64 gw), (.int .i64 gi), (.int .i64 gb)] 23 hs fun b4 w2 hs3 => ?_
 refine zE 1 (hK1 _ _ ?_)
 refine W.sr fun K5 hK5 => ?_
 refine ops_R (runs_loadAgg (ad := ⟨b4, 0, none⟩) (cs := [(.int .i64 gw), (.int .i64 gi), (.int .i64 gb)]) (by kernel_rfl) (cells_sub (hs3.heapAt 0 rfl) rfl)) ?_
 refine zC00 hs3 (place6_spec (gw := gw) (gi := gi) (gb := gb) (n_ := 0) B _) fun w6 hs8 => ?_
 refine zE 1 (hK5 _ _ ?_)
 refine W.ret ?_
 have hs9 := St.tk0 hs8
 refine ret_of (.int .i64 (placeOf 6 gw gi gb 0)) (by kernel_rfl) ⟨_, ⟨rfl, rfl⟩, hs9⟩

theorem lmap7_spec {gw gi gb : Int} (B : Nat) (w : World) : Spec Tryd.prog 60 #[(.agg #[(.int .i64 gw), (.int .i64 gi), (.int .i64 gb)])] B w [] (fun v H' => v = .int .i64 (placeOf 7 gw gi gb 0) ∧ H' = []) := by
 refine spec_Q Tryd.func60 rfl fun hs => ?_
 refine W.sr fun K1 hK1 => ?_
 refine zN [(.int .i64 gw), (.int .i64 gi), (.int .i64 gb)] 23 hs fun b4 w2 hs3 => ?_
 refine zE 1 (hK1 _ _ ?_)
 refine W.sr fun K5 hK5 => ?_
 refine ops_R (runs_loadAgg (ad := ⟨b4, 0, none⟩) (cs := [(.int .i64 gw), (.int .i64 gi), (.int .i64 gb)]) (by kernel_rfl) (cells_sub (hs3.heapAt 0 rfl) rfl)) ?_
 refine zC00 hs3 (place7_spec (gw := gw) (gi := gi) (gb := gb) (n_ := 0) B _) fun w6 hs8 => ?_
 refine zE 1 (hK5 _ _ ?_)
 refine W.ret ?_
 have hs9 := St.tk0 hs8
 refine ret_of (.int .i64 (placeOf 7 gw gi gb 0)) (by kernel_rfl) ⟨_, ⟨rfl, rfl⟩, hs9⟩


end Go.Proofs.YtmmclabkkigiaaaDoor

namespace Go.Proofs.YtmmclabkkigiaaaDoor
open Go Go.RowKit

theorem St.oldCellsB {B : Nat} {w0 w : World} {l0 : List Nat} {H : List Asn} {ad : Addr} {cs : List Value} (hs : St B w0 l0 w H) (hG : ad.block < B) (h : CellsAt (some ad) cs w0) : CellsAt (some ad) cs w := by
  obtain ⟨hB, hlow, l, _, hu⟩ := hs
  intro j v hj
  have hc := h j v hj
  have hb : (ad.add j).block = ad.block := by unfold Addr.add; split <;> rfl
  have he : w.heap[(ad.add j).block]? = w0.heap[(ad.add j).block]? := by
    rw [hb]
    exact hu.block _ (Nat.lt_of_lt_of_le hG hB) fun hm => absurd (hlow _ hm).1 (by omega)
  rw [World.cell?_of_block (w := w0) he]
  exact hc
theorem lt_of_cells {w : World} {ad : Addr} {v : Value} {cs : List Value} (h : CellsAt (some ad) cs w) (h0 : cs[0]? = some v) : ad.block < w.heap.size := by
  have hc := h 0 v h0
  have hb : (ad.add 0).block = ad.block := by unfold Addr.add; split <;> rfl
  rw [← hb]
  exact World.block_lt_of_cell? w _ hc

section
variable {α : Type} (Kd : Kind α)
end

section
variable {M : Bool} {P : Program} {ops : Array Oper} {i : Nat} {s : Fs} {w w' : World} {K : Fs → World → Prop}

theorem ops_storeArr {α : Type} (Kd : Kind α) {B : Nat} {w0 : World} {l0 : List Nat} {R : List Asn} {b k j : Nat} {t : TypeId} {l : List α} {vs : List Value} (d y : α) (hs : St B w0 l0 w (blk b (.cells (Kd.cells l).toArray t (0, 0)) :: R)) (hkl : k < l.length) (hj : j + vs.length ≤ Kd.size) (hv : vs.all Value.oneCell' = true)
    (hy : Kd.elem y = writeAt (Kd.elem (l.getD k d)) j vs) (hq : storeQ P ops i s = some ((adr (some ⟨b, 0, none⟩) (k * Kd.size)).add j, vs))
    (hk : ∀ w', St B w0 l0 w' (blk b (.cells (Kd.cells (l.set k y)).toArray t (0, 0)) :: R) → OpsAt M P ops (i + 1) (putS s (dstOf ops i) undef) w' K) : OpsAt M P ops i s w K := by
  rw [adr_add] at hq
  have hadd : adr (some ⟨b, 0, none⟩) (k * Kd.size + j) = ⟨b, k * Kd.size + j, none⟩ := by unfold adr Addr.add; split <;> simp_all
  rw [hadd] at hq
  refine ops_store hs hq ?_ hv fun w' hs' => hk w' ?_
  · rw [Kd.length]
    have : (k + 1) * Kd.size ≤ l.length * Kd.size := Nat.mul_le_mul_right _ hkl
    rw [Nat.add_mul] at this
    omega
  · rw [Kd.set d j y hkl hj hy] at hs'
    exact hs'
end
end Go.Proofs.YtmmclabkkigiaaaDoor

set_option linter.unusedVariables false
set_option maxRecDepth 20000
namespace Go.Proofs.YtmmclabkkigiaaaDoor
open Go Go.RowKit
set_option linter.unusedSimpArgs false
set_option linter.unusedVariables false

def pfree_M (img : List Int) (l : List (Int × Int)) (at_ : Int) (many : Int) (pm : Int) : Option (Int) :=
 (mcount_M img l at_ many).bind fun r7 =>
need (-9223372036854775808 ≤ (pm - r7) ∧ (pm - r7) ≤ 9223372036854775807) <|
some (pm - r7)

theorem pfree_walk {img : List Int} {l : List (Int × Int)} {at_ : Int} {many : Int} {pm : Int} {mb vb : Nat} {r : Int} (B : Nat) (w : World) (hmb : w.heap[mb]? = some (.cells [(.pointer (some ⟨vb, 0, none⟩)), (.int .i64 at_), (.int .i64 many)].toArray 136 (0, 0))) (hv : ViewAt (ptr vb) img l w) (hm : pfree_M img l at_ many pm = some r) : Spec Tryd.prog 61 #[(.agg #[(.pointer (some ⟨mb, 0, none⟩)), (.int .i64 pm)])] B w [] (fun v H' => v = .int .i64 r ∧ H' = []) := by
 refine spec_Q Tryd.func61 rfl fun hs => ?_
 unfold pfree_M at hm
 refine W.sr fun K1 hK1 => ?_
 refine zN [(.pointer (some ⟨mb, 0, none⟩)), (.int .i64 pm)] 112 hs fun b4 w2 hs3 => ?_
 refine zE 1 (hK1 _ _ ?_)
 refine W.seq fun K5 hK5 => ?_
 have hs6 := hs3.drew
 refine W.regionD [(0, 0), (1, 1), (0, 0), (4, 4), (8, 8), (18, 18), (63, 32)] (fun w_ => St B w [] w_ [blk b4 (.cells [(.pointer (some ⟨mb, 0, none⟩)), (.int .i64 pm)].toArray 112 (0, 0))]) (by kernel_rfl) hs6 ?_
 refine any_val (v := (.pointer (some ⟨b4, 1, none⟩))) (v' := (.pointer (some ⟨b4, 1, none⟩))) 0 (by kernel_rfl) (fun _ => by kernel_rfl) rfl hs6 ?_
 refine any_R 1 (by kernel_rfl) (fun _ hS_ => runs_load (ad := ⟨b4, 1, none⟩) (v := (.int .i64 pm)) (by kernel_rfl) (hS_.cellAt 0 rfl rfl)) hs6 ?_
 refine any_val (v := (.pointer (some ⟨b4, 0, none⟩))) (v' := (.pointer (some ⟨b4, 0, none⟩))) 2 (by kernel_rfl) (fun _ => by kernel_rfl) rfl hs6 ?_
 refine any_R 3 (by kernel_rfl) (fun _ hS_ => runs_load (ad := ⟨b4, 0, none⟩) (v := (.pointer (some ⟨mb, 0, none⟩))) (by kernel_rfl) (hS_.cellAt 0 rfl rfl)) hs6 ?_
 refine any_step 4 (by kernel_rfl) (by kernel_rfl) ?_
 obtain ⟨r7, h8, hm⟩ := bind_some hm
 refine zC00 hs6 (mcount_walk (hmb := (hs6.old hmb)) (hv := (viewAt_old hs6 hv)) (hm := h8) B _) fun w9 hs11 => ?_
 refine ops_done (by kernel_rfl) ⟨hs11, ?_⟩
 obtain ⟨h12, hm⟩ := need_some hm
 refine any_val (v := .int .i64 (IntKind.i64.wrap (pm - r7))) (v' := .int .i64 (pm - r7)) 5 (by kernel_rfl) (fun _ => by kernel_rfl) (congrArg (Value.int .i64) (wrap_i64 h12.1 h12.2)) hs11 ?_
 refine any_val (v := (.int .i64 (pm - r7))) (v' := (.int .i64 (pm - r7))) 6 (by kernel_rfl) (fun _ => by kernel_rfl) rfl hs11 ?_
 refine any_done (by kernel_rfl) ?_
 refine hK5 _ _ ?_
 refine W.ret ?_
 obtain rfl := some_inj hm
 have hs13 := St.tk0 hs11
 refine ret_of (.int .i64 (pm - r7)) (by kernel_rfl) ⟨_, ⟨rfl, rfl⟩, hs13⟩

def pgive_J1 (img : List Int) (l : List (Int × Int)) (at_ : Int) (many : Int) (n_ : Int) (p6 : Bool) : Option (Int × List (Int × Int)) :=
 if p6 = true then (some (1, l)) else ((mget_M img l at_ many n_).bind fun r14 =>
if r14 = true then ((mset_M img l at_ many n_ false).bind fun r21 =>
some (r21.1, r21.2)) else (some (3, l)))

def pgive_M (img : List Int) (l : List (Int × Int)) (at_ : Int) (many : Int) (pm : Int) (n_ : Int) : Option (Int × List (Int × Int)) :=
 if n_ < 1 then (pgive_J1 img l at_ many n_ (decide (n_ < 1))) else (pgive_J1 img l at_ many n_ (decide (n_ ≥ pm)))

theorem pgive_walk {img : List Int} {l : List (Int × Int)} {at_ : Int} {many : Int} {pm : Int} {n_ : Int} {mb vb : Nat} {r : Int × List (Int × Int)} (B : Nat) (w : World) (hm : pgive_M img l at_ many pm n_ = some r) : Spec Tryd.prog 95 #[(.agg #[(.pointer (some ⟨mb, 0, none⟩)), (.int .i64 pm)]), (.int .i64 n_)] B w [blk mb (.cells [(.pointer (some ⟨vb, 0, none⟩)), (.int .i64 at_), (.int .i64 many)].toArray 136 (0, 0)), viewA (ptr vb) img l] (fun v H' => v = .int .i64 r.1 ∧ H' = [blk mb (.cells [(.pointer (some ⟨vb, 0, none⟩)), (.int .i64 at_), (.int .i64 many)].toArray 136 (0, 0)), viewA (ptr vb) img r.2]) := by
 refine spec_W Tryd.func95 rfl fun l0 hs => ?_
 unfold pgive_M at hm
 refine W.sr fun K1 hK1 => ?_
 refine zN [(.pointer (some ⟨mb, 0, none⟩)), (.int .i64 pm)] 112 hs fun b4 w2 hs3 => ?_
 refine zE 1 (hK1 _ _ ?_)
 refine W.seq fun K5 hK5 => ?_
 refine W.block ?_
 refine W.seq_join (fun s_ w_ => ∃ (p6 : Bool), (∃ us, s_ = slots 22 [(1, (.int .i64 n_)), (2, (.pointer (some ⟨b4, 0, none⟩))), (5, (.bool p6))] us) ∧ St B w l0 w_ [viewA (ptr vb) img l, blk mb (.cells [(.pointer (some ⟨vb, 0, none⟩)), (.int .i64 at_), (.int .i64 many)].toArray 136 (0, 0)), blk b4 (.cells [(.pointer (some ⟨mb, 0, none⟩)), (.int .i64 pm)].toArray 112 (0, 0))] ∧ pgive_J1 img l at_ many n_ p6 = some r) ?_ ?_
 ·
  rintro _ w7 ⟨p6, ⟨us, rfl⟩, hs8, hm⟩
  unfold pgive_J1 at hm
  refine W.cond p6 (by kernel_rfl) (fun h9 => ?_) (fun h9 => ?_)
  ·
   have h9p : p6 = true := h9
   replace hm := ite_yes hm h9p
   refine W.sr fun K10 hK10 => ?_
   refine zE 1 (hK10 _ _ ?_)
   refine W.ret (ret_block (ret_seq ?_))
   obtain rfl := some_inj hm
   have hs11 := St.f1 hs8
   have hs12 := St.tk2 hs11
   refine ret_of (.int .i64 1) (by kernel_rfl) ⟨_, ⟨rfl, rfl⟩, hs12⟩
  ·
   have h9p : ¬ (p6 = true) := ne_true_of_eq_false h9
   replace hm := ite_no hm h9p
   refine W.sr fun K13 hK13 => ?_
   refine zR 1 ?_
   refine zL ⟨b4, 0, none⟩ (.pointer (some ⟨mb, 0, none⟩)) (hs8.cellAt 2 rfl rfl) ?_
   refine zR 1 ?_
   obtain ⟨r14, h15, hm⟩ := bind_some hm
   refine zC00 hs8 (mget_walk (hmb := (hs8.heapAt 1 rfl)) (hv := (hs8.entAt 0 rfl viewA_at)) (hm := h15) B _) fun w16 hs18 => ?_
   refine zE 2 (hK13 _ _ ?_)
   refine W.cond (!r14) (by kernel_rfl) (fun h19 => ?_) (fun h19 => ?_)
   rotate_left
   ·
    have h19p : r14 = true := (bnot_false h19)
    replace hm := ite_yes hm h19p
    refine W.skip ?_
    refine normal_block ?_
    refine hK5 _ _ ?_
    refine W.sr fun K20 hK20 => ?_
    refine zR 1 ?_
    refine zL ⟨b4, 0, none⟩ (.pointer (some ⟨mb, 0, none⟩)) (hs18.cellAt 2 rfl rfl) ?_
    refine zR 1 ?_
    obtain ⟨r21, h22, hm⟩ := bind_some hm
    have hs23 := St.f1 hs18
    refine zC22 hs23 (mset_walk (hm := h22) B _) fun w24 hs26 => ?_
    refine zE 1 (hK20 _ _ ?_)
    refine W.ret ?_
    obtain rfl := some_inj hm
    have hs27 := St.f1 hs26
    have hs28 := St.f1 hs27
    have hs29 := St.tk2 hs28
    refine ret_of (.int .i64 r21.1) (by kernel_rfl) ⟨_, ⟨rfl, rfl⟩, hs29⟩
   ·
    have h19p : ¬ (r14 = true) := ne_true_of_eq_false (bnot_true h19)
    replace hm := ite_no hm h19p
    refine W.sr fun K30 hK30 => ?_
    refine zE 1 (hK30 _ _ ?_)
    refine W.ret (ret_block (ret_seq ?_))
    obtain rfl := some_inj hm
    have hs31 := St.f1 hs18
    have hs32 := St.tk2 hs31
    refine ret_of (.int .i64 3) (by kernel_rfl) ⟨_, ⟨rfl, rfl⟩, hs32⟩
 ·
  refine W.sr fun K33 hK33 => ?_
  refine zE 3 (hK33 _ _ ?_)
  refine W.cond (decide (n_ < 1)) (by kernel_rfl) (fun h34 => ?_) (fun h34 => ?_)
  ·
   obtain ⟨h34p, hm⟩ := iY hm h34
   refine W.skip ?_
   have hs35 := St.f1 hs3
   have hs36 := St.f2 hs35
   exact ⟨(decide (n_ < 1)), slots_intro _ (by kernel_rfl), hs36, hm⟩
  ·
   obtain ⟨h34p, hm⟩ := iN hm h34
   refine W.region ?_
   refine zR 2 ?_
   refine zL ⟨b4, 1, none⟩ (.int .i64 pm) (hs3.cellAt 0 rfl rfl) ?_
   refine zE 2 ?_
   have hs37 := St.f1 hs3
   have hs38 := St.f2 hs37
   exact ⟨(decide (n_ ≥ pm)), slots_intro _ (by kernel_rfl), hs38, hm⟩

def aclear_B0 (img : List Int) (ns : List Int) (k6 : ((List (Int × Int)) × Int) → Option (Int × List (Int × Int))) (l4 : List (Int × Int)) (p5 : Int) : Option (Int × List (Int × Int)) :=
 if p5 < (ns.length : Int) then (need (0 ≤ p5 ∧ p5 < (ns.length : Int)) <|
(some (vput img l4 (ns.getD p5.toNat 0) 0)).bind fun r21 =>
if r21.1 = 0 then (need (-9223372036854775808 ≤ (p5 + 1) ∧ (p5 + 1) ≤ 9223372036854775807) <|
k6 (r21.2, (p5 + 1))) else (some (r21.1, r21.2))) else (some (0, l4))

def aclear_M (img : List Int) (l : List (Int × Int)) (ns : List Int) : Option (Int × List (Int × Int)) :=
 iter (fun k_ s_ => aclear_B0 img ns k_ s_.1 s_.2) FUEL (l, 0)

theorem aclear_walk {img : List Int} {l : List (Int × Int)} {gw : Int} {gi : Int} {gb : Int} {ns : List Int} {ab ib bb vb : Nat} {wa : Option Addr} {wc : Nat} {r : Int × List (Int × Int)} (B : Nat) (w : World) (hm : aclear_M img l ns = some r) : Spec Tryd.prog 101 #[(.pointer (some ⟨ab, 0, none⟩)), (.slice wa ns.length wc)] B w [blk ab (.cells [(.pointer (some ⟨vb, 0, none⟩)), (.int .i64 gw), (.int .i64 gi), (.int .i64 gb), (.pointer (some ⟨ib, 0, none⟩)), (.int .i64 gi), (.pointer (some ⟨bb, 0, none⟩)), (.int .i64 gb)].toArray 114 (0, 0)), kInt.row wa wc ns, viewA (ptr vb) img l] (fun v H' => v = .int .i64 r.1 ∧ H' = [blk ab (.cells [(.pointer (some ⟨vb, 0, none⟩)), (.int .i64 gw), (.int .i64 gi), (.int .i64 gb), (.pointer (some ⟨ib, 0, none⟩)), (.int .i64 gi), (.pointer (some ⟨bb, 0, none⟩)), (.int .i64 gb)].toArray 114 (0, 0)), kInt.row wa wc ns, viewA (ptr vb) img r.2]) := by
 refine spec_W Tryd.func101 rfl fun l0 hs => ?_
 unfold aclear_M at hm
 refine W.sr fun K1 hK1 => ?_
 refine zE 1 (hK1 _ _ ?_)
 refine W.seq fun K2 hK2 => ?_
 refine W.sr fun K3 hK3 => ?_
 refine zE 3 (hK3 _ _ ?_)
 refine W.block ?_
 have hs10 := St.f1 hs
 have hs11 := St.f1 hs10
 have hs12 := St.f2 hs11
 refine W.loop_iter (G := (List (Int × Int)) × Int) (σ := (List (Int × Int)) × Int) (fun | (l4, p5) => (l4, p5)) (fun | (l4, p5), s_, w_ => (∃ us, s_ = slots 24 [(0, (.pointer (some ⟨ab, 0, none⟩))), (8, (.slice wa ns.length wc)), (9, (.int .i64 (ns.length : Int))), (10, (.int .i64 p5))] us) ∧ St B w l0 w_ [viewA (ptr vb) img l4, blk ab (.cells [(.pointer (some ⟨vb, 0, none⟩)), (.int .i64 gw), (.int .i64 gi), (.int .i64 gb), (.pointer (some ⟨ib, 0, none⟩)), (.int .i64 gi), (.pointer (some ⟨bb, 0, none⟩)), (.int .i64 gb)].toArray 114 (0, 0)), kInt.row wa wc ns]) (l, 0) ⟨slots_intro _ (by kernel_rfl), hs12⟩ hm ?_
 rintro k6 ih7 ⟨l4, p5⟩ _ w8 ⟨⟨us, rfl⟩, hs9⟩ hm
 replace hm : aclear_B0 img ns k6 l4 p5 = some r := hm
 unfold aclear_B0 at hm
 refine W.sr fun K13 hK13 => ?_
 refine zE 1 (hK13 _ _ ?_)
 refine W.seq fun K14 hK14 => ?_
 refine W.cond (decide (p5 < (ns.length : Int))) (by kernel_rfl) (fun h15 => ?_) (fun h15 => ?_)
 ·
  obtain ⟨h15p, hm⟩ := iY hm h15
  refine W.skip ?_
  refine hK14 _ _ ?_
  refine W.seq fun K16 hK16 => ?_
  refine W.block ?_
  refine W.sr fun K17 hK17 => ?_
  obtain ⟨h19, hm⟩ := need_some hm
  have hk18 := lt_toNat h19
  refine ops_R (runs_index (a := wa) (n := ns.length) (z := p5) (size := 1) p5.toNat (nat_of h19.1) hk18 (kInt.addr (St.kcells kInt hs9 2 rfl) hk18) (by kernel_rfl)) ?_
  refine zL ((adr wa (p5.toNat * 1)).add 0) (.int .i64 (ns.getD p5.toNat 0)) (kInt.at (St.kcells kInt hs9 2 rfl) hk18 0 0 rfl) ?_
  refine zE 1 (hK17 _ _ ?_)
  refine W.sr fun K20 hK20 => ?_
  refine zR 3 ?_
  refine zL ⟨ab, 0, none⟩ (.pointer (some ⟨vb, 0, none⟩)) (hs9.cellAt 1 rfl rfl) ?_
  refine zR 1 ?_
  obtain ⟨r21, h22, hm⟩ := bind_some hm
  replace h22 := some_inj h22
  refine ops_call1 hs9 (by kernel_rfl) (put_spec (p := (.pointer (some ⟨vb, 0, none⟩))) (img := img) (l := l4) (at_ := (ns.getD p5.toNat 0)) (x_ := 0) B _) ?_
  rintro _ _ w25 ⟨hv23, hH24⟩ hs26
  rw [h22] at hv23
  try rw [h22] at hH24
  subst hv23 hH24
  have hs27 := St.ap1 hs26
  refine zE 1 (hK20 _ _ ?_)
  refine W.sr fun K28 hK28 => ?_
  refine zE 2 (hK28 _ _ ?_)
  refine W.cond (!decide (r21.1 = 0)) (by kernel_rfl) (fun h29 => ?_) (fun h29 => ?_)
  rotate_left
  ·
   have h29p : r21.1 = 0 := of_decide_eq_true (bnot_false h29)
   replace hm := ite_yes hm h29p
   refine W.skip ?_
   refine normal_block ?_
   refine hK16 _ _ ?_
   refine W.region ?_
   obtain ⟨h30, hm⟩ := need_some hm
   refine zI _ (wrap_i64 h30.1 h30.2) ?_
   refine zE 1 ?_
   refine loopAt_next ?_
   exact ih7 (r21.2, (p5 + 1)) _ _ ⟨slots_intro _ (by kernel_rfl), hs27⟩ hm
  ·
   have h29p : ¬ (r21.1 = 0) := of_decide_eq_false (bnot_true h29)
   replace hm := ite_no hm h29p
   refine W.sr fun K31 hK31 => ?_
   refine zE 2 (hK31 _ _ ?_)
   refine W.ret (ret_block (ret_seq (ret_seq (ret_block (ret_seq ?_)))))
   obtain rfl := some_inj hm
   have hs32 := St.f2 hs27
   have hs33 := St.f2 hs32
   refine ret_of (.int .i64 r21.1) (by kernel_rfl) ⟨_, ⟨rfl, rfl⟩, hs33⟩
 ·
  obtain ⟨h15p, hm⟩ := iN hm h15
  refine W.exit (exit_seq (exit_seq (exit_here ?_)))
  refine hK2 _ _ ?_
  refine W.sr fun K34 hK34 => ?_
  refine zE 1 (hK34 _ _ ?_)
  refine W.ret ?_
  obtain rfl := some_inj hm
  have hs35 := St.f2 hs9
  have hs36 := St.f2 hs35
  refine ret_of (.int .i64 0) (by kernel_rfl) ⟨_, ⟨rfl, rfl⟩, hs36⟩

end Go.Proofs.YtmmclabkkigiaaaDoor
