/- Texts, one behind the other: F6b, F6c, F6d. -/
import Derived.Test.YtmmclabkkigiaaaGreatDoorQET2
set_option linter.unusedVariables false
set_option linter.unusedSimpArgs false
set_option maxRecDepth 20000
namespace Go.Proofs.YtmmclabkkigiaaaGreatDoor
open Go Go.RowKit
set_option linter.unusedSimpArgs false
set_option linter.unusedVariables false

theorem rows_spec {gw gi gb : Int} (B : Nat) (w : World) : Spec Tryz.prog 76 #[(.agg #[(.int .i64 gw), (.int .i64 gi), (.int .i64 gb)])] B w [] (fun v H' => v = (.agg #[(.int .u8 1), (.int .i64 8), (.int .i64 1), (.int .u8 2), (.int .i64 64), (.int .i64 4), (.int .u8 5), (.int .i64 208), (.int .i64 gw), (.int .u8 6), (.int .i64 8), (.int .i64 1), (.int .u8 7), (.int .i64 8), (.int .i64 1), (.int .u8 8), (.int .i64 16), (.int .i64 gi), (.int .u8 9), (.int .i64 8), (.int .i64 gb)]) ∧ H' = []) := by
 refine spec_Q Tryz.func76 rfl fun hs => ?_
 refine W.sr fun K1 hK1 => ?_
 refine zN [(.int .i64 gw), (.int .i64 gi), (.int .i64 gb)] 31 hs fun b4 w2 hs3 => ?_
 refine zN [(.int .u8 0), (.int .i64 0), (.int .i64 0), (.int .u8 0), (.int .i64 0), (.int .i64 0), (.int .u8 0), (.int .i64 0), (.int .i64 0), (.int .u8 0), (.int .i64 0), (.int .i64 0), (.int .u8 0), (.int .i64 0), (.int .i64 0), (.int .u8 0), (.int .i64 0), (.int .i64 0), (.int .u8 0), (.int .i64 0), (.int .i64 0)] 143 hs3 fun b7 w5 hs6 => ?_
 refine zD (hK1 _ _ ?_)
 refine W.sr fun K8 hK8 => ?_
 refine zR 3 ?_
 refine zL ⟨b4, 0, none⟩ (.int .i64 gw) (hs6.cellAt 1 rfl rfl) ?_
 refine zR 4 ?_
 refine zL ⟨b4, 1, none⟩ (.int .i64 gi) (hs6.cellAt 1 rfl rfl) ?_
 refine zR 2 ?_
 refine zL ⟨b4, 2, none⟩ (.int .i64 gb) (hs6.cellAt 1 rfl rfl) ?_
 refine zR 2 ?_
 refine ops_store (off := 0) (cs := [(.int .u8 0), (.int .i64 0), (.int .i64 0), (.int .u8 0), (.int .i64 0), (.int .i64 0), (.int .u8 0), (.int .i64 0), (.int .i64 0), (.int .u8 0), (.int .i64 0), (.int .i64 0), (.int .u8 0), (.int .i64 0), (.int .i64 0), (.int .u8 0), (.int .i64 0), (.int .i64 0), (.int .u8 0), (.int .i64 0), (.int .i64 0)]) (vs := [(.int .u8 1), (.int .i64 8), (.int .i64 1), (.int .u8 2), (.int .i64 64), (.int .i64 4), (.int .u8 5), (.int .i64 208), (.int .i64 gw), (.int .u8 6), (.int .i64 8), (.int .i64 1), (.int .u8 7), (.int .i64 8), (.int .i64 1), (.int .u8 8), (.int .i64 16), (.int .i64 gi), (.int .u8 9), (.int .i64 8), (.int .i64 gb)]) hs6 (by kernel_rfl) (by simp) rfl (fun w9 hs10 => ?_)
 have hs11 : St B w [] w9 [blk b7 (.cells [(.int .u8 1), (.int .i64 8), (.int .i64 1), (.int .u8 2), (.int .i64 64), (.int .i64 4), (.int .u8 5), (.int .i64 208), (.int .i64 gw), (.int .u8 6), (.int .i64 8), (.int .i64 1), (.int .u8 7), (.int .i64 8), (.int .i64 1), (.int .u8 8), (.int .i64 16), (.int .i64 gi), (.int .u8 9), (.int .i64 8), (.int .i64 gb)].toArray 143 (0, 0)), blk b4 (.cells [(.int .i64 gw), (.int .i64 gi), (.int .i64 gb)].toArray 31 (0, 0))] := hs10
 refine zD (hK8 _ _ ?_)
 refine W.ret ?_
 have hs12 := St.tk0 hs11
 refine ret_of (.agg #[(.int .u8 1), (.int .i64 8), (.int .i64 1), (.int .u8 2), (.int .i64 64), (.int .i64 4), (.int .u8 5), (.int .i64 208), (.int .i64 gw), (.int .u8 6), (.int .i64 8), (.int .i64 1), (.int .u8 7), (.int .i64 8), (.int .i64 1), (.int .u8 8), (.int .i64 16), (.int .i64 gi), (.int .u8 9), (.int .i64 8), (.int .i64 gb)]) (results_cell (ad := ⟨b7, 0, none⟩) (cs := [(.int .u8 1), (.int .i64 8), (.int .i64 1), (.int .u8 2), (.int .i64 64), (.int .i64 4), (.int .u8 5), (.int .i64 208), (.int .i64 gw), (.int .u8 6), (.int .i64 8), (.int .i64 1), (.int .u8 7), (.int .i64 8), (.int .i64 1), (.int .u8 8), (.int .i64 16), (.int .i64 gi), (.int .u8 9), (.int .i64 8), (.int .i64 gb)]) rfl (by kernel_rfl) (by kernel_rfl) (cells_sub (hs11.heapAt 0 rfl) rfl)) ⟨_, ⟨rfl, rfl⟩, hs12⟩

theorem lwords_spec {gw gi gb : Int} (B : Nat) (w : World) : Spec Tryz.prog 37 #[(.agg #[(.int .i64 gw), (.int .i64 gi), (.int .i64 gb)])] B w [] (fun v H' => v = .int .i64 (wordsOf gw gi gb) ∧ H' = []) := by
 refine spec_Q Tryz.func37 rfl fun hs => ?_
 refine W.sr fun K1 hK1 => ?_
 refine zN [(.int .i64 gw), (.int .i64 gi), (.int .i64 gb)] 31 hs fun b4 w2 hs3 => ?_
 refine zE 1 (hK1 _ _ ?_)
 refine W.seq fun K5 hK5 => ?_
 refine W.sr fun K6 hK6 => ?_
 refine ops_R (runs_loadAgg (ad := ⟨b4, 0, none⟩) (cs := [(.int .i64 gw), (.int .i64 gi), (.int .i64 gb)]) (by kernel_rfl) (cells_sub (hs3.heapAt 0 rfl) rfl)) ?_
 refine zC00 hs3 (may_spec (gw := gw) (gi := gi) (gb := gb) B _) fun w7 hs9 => ?_
 refine zE 1 (hK6 _ _ ?_)
 refine W.cond (!(decide (May gw gi gb))) (by kernel_rfl) (fun h10 => ?_) (fun h10 => ?_)
 ·
  have h10p : ¬ (May gw gi gb) := of_decide_eq_false (bnot_true h10)
  have hm : ¬ May gw gi gb := h10p
  refine W.sr fun K11 hK11 => ?_
  refine zE 1 (hK11 _ _ ?_)
  refine W.ret (ret_seq ?_)
  have hs12 := St.tk0 hs9
  refine ret_of (.int .i64 0) (by kernel_rfl) ⟨_, ⟨congrArg (Value.int .i64) (by first | contradiction | (simp only [wordsOf, if_pos hm]; omega) | (simp only [wordsOf, if_neg hm]; done)), rfl⟩, hs12⟩
 ·
  have h10p : May gw gi gb := of_decide_eq_true (bnot_false h10)
  have hm : May gw gi gb := h10p
  have hm_ : (1 ≤ gw ∧ gw ≤ 4) ∧ (2 ≤ gi ∧ gi ≤ 64) ∧ (2 ≤ gb ∧ gb ≤ 512) := hm
  refine W.skip ?_
  refine hK5 _ _ ?_
  refine W.seq fun K13 hK13 => ?_
  refine W.sr fun K14 hK14 => ?_
  refine ops_R (runs_loadAgg (ad := ⟨b4, 0, none⟩) (cs := [(.int .i64 gw), (.int .i64 gi), (.int .i64 gb)]) (by kernel_rfl) (cells_sub (hs9.heapAt 0 rfl) rfl)) ?_
  refine zC00 hs9 (rows_spec (gw := gw) (gi := gi) (gb := gb) B _) fun w15 hs17 => ?_
  refine zE 1 (hK14 _ _ ?_)
  refine W.block ?_
  refine W.loop_start ?_
  refine loopAt_round ?_
  refine W.sr fun K18 hK18 => ?_
  refine zE 1 (hK18 _ _ ?_)
  refine W.seq fun K19 hK19 => ?_
  refine W.cond_true true (by kernel_rfl) rfl ?_
  refine W.skip ?_
  refine hK19 _ _ ?_
  refine W.seq fun K20 hK20 => ?_
  refine W.block ?_
  refine W.sr fun K21 hK21 => ?_
  refine zR 1 ?_
  refine zN [(.int .u8 0), (.int .i64 0), (.int .i64 0)] 142 hs17 fun b24 w22 hs23 => ?_
  refine ops_store (off := 0) (cs := [(.int .u8 0), (.int .i64 0), (.int .i64 0)]) (vs := [(.int .u8 1), (.int .i64 8), (.int .i64 1)]) hs23 (by kernel_rfl) (by simp) rfl (fun w25 hs26 => ?_)
  have hs27 : St B w [] w25 [blk b24 (.cells [(.int .u8 1), (.int .i64 8), (.int .i64 1)].toArray 142 (0, 0)), blk b4 (.cells [(.int .i64 gw), (.int .i64 gi), (.int .i64 gb)].toArray 31 (0, 0))] := hs26
  refine zD (hK21 _ _ ?_)
  refine W.region ?_
  refine zR 2 ?_
  refine zL ⟨b24, 1, none⟩ (.int .i64 8) (hs27.cellAt 0 rfl rfl) ?_
  refine zR 1 ?_
  refine zL ⟨b24, 2, none⟩ (.int .i64 1) (hs27.cellAt 0 rfl rfl) ?_
  refine zE 3 ?_
  refine normal_block ?_
  refine hK20 _ _ ?_
  refine W.region ?_
  refine zE 2 ?_
  refine loopAt_next ?_
  refine loopAt_round ?_
  refine W.sr fun K28 hK28 => ?_
  refine zE 1 (hK28 _ _ ?_)
  refine W.seq fun K29 hK29 => ?_
  refine W.cond_true true (by kernel_rfl) rfl ?_
  refine W.skip ?_
  refine hK29 _ _ ?_
  refine W.seq fun K30 hK30 => ?_
  refine W.block ?_
  refine W.sr fun K31 hK31 => ?_
  refine zR 1 ?_
  refine zN [(.int .u8 0), (.int .i64 0), (.int .i64 0)] 142 hs27 fun b34 w32 hs33 => ?_
  refine ops_store (off := 0) (cs := [(.int .u8 0), (.int .i64 0), (.int .i64 0)]) (vs := [(.int .u8 2), (.int .i64 64), (.int .i64 4)]) hs33 (by kernel_rfl) (by simp) rfl (fun w35 hs36 => ?_)
  have hs37 : St B w [] w35 [blk b34 (.cells [(.int .u8 2), (.int .i64 64), (.int .i64 4)].toArray 142 (0, 0)), blk b24 (.cells [(.int .u8 1), (.int .i64 8), (.int .i64 1)].toArray 142 (0, 0)), blk b4 (.cells [(.int .i64 gw), (.int .i64 gi), (.int .i64 gb)].toArray 31 (0, 0))] := hs36
  refine zD (hK31 _ _ ?_)
  refine W.region ?_
  refine zR 2 ?_
  refine zL ⟨b34, 1, none⟩ (.int .i64 64) (hs37.cellAt 0 rfl rfl) ?_
  refine zR 1 ?_
  refine zL ⟨b34, 2, none⟩ (.int .i64 4) (hs37.cellAt 0 rfl rfl) ?_
  refine zE 3 ?_
  refine normal_block ?_
  refine hK30 _ _ ?_
  refine W.region ?_
  refine zE 2 ?_
  refine loopAt_next ?_
  refine loopAt_round ?_
  refine W.sr fun K38 hK38 => ?_
  refine zE 1 (hK38 _ _ ?_)
  refine W.seq fun K39 hK39 => ?_
  refine W.cond_true true (by kernel_rfl) rfl ?_
  refine W.skip ?_
  refine hK39 _ _ ?_
  refine W.seq fun K40 hK40 => ?_
  refine W.block ?_
  refine W.sr fun K41 hK41 => ?_
  refine zR 1 ?_
  refine zN [(.int .u8 0), (.int .i64 0), (.int .i64 0)] 142 hs37 fun b44 w42 hs43 => ?_
  refine ops_store (off := 0) (cs := [(.int .u8 0), (.int .i64 0), (.int .i64 0)]) (vs := [(.int .u8 5), (.int .i64 208), (.int .i64 gw)]) hs43 (by kernel_rfl) (by simp) rfl (fun w45 hs46 => ?_)
  have hs47 : St B w [] w45 [blk b44 (.cells [(.int .u8 5), (.int .i64 208), (.int .i64 gw)].toArray 142 (0, 0)), blk b34 (.cells [(.int .u8 2), (.int .i64 64), (.int .i64 4)].toArray 142 (0, 0)), blk b24 (.cells [(.int .u8 1), (.int .i64 8), (.int .i64 1)].toArray 142 (0, 0)), blk b4 (.cells [(.int .i64 gw), (.int .i64 gi), (.int .i64 gb)].toArray 31 (0, 0))] := hs46
  refine zD (hK41 _ _ ?_)
  refine W.region ?_
  refine zR 2 ?_
  refine zL ⟨b44, 1, none⟩ (.int .i64 208) (hs47.cellAt 0 rfl rfl) ?_
  refine zR 1 ?_
  refine zL ⟨b44, 2, none⟩ (.int .i64 gw) (hs47.cellAt 0 rfl rfl) ?_
  refine zI (208 * gw) (wrap_i64 (by omega) (by omega)) ?_
  refine zI (264 + (208 * gw)) (wrap_i64 (by omega) (by omega)) ?_
  refine zE 1 ?_
  refine normal_block ?_
  refine hK40 _ _ ?_
  refine W.region ?_
  refine zE 2 ?_
  refine loopAt_next ?_
  refine loopAt_round ?_
  refine W.sr fun K48 hK48 => ?_
  refine zE 1 (hK48 _ _ ?_)
  refine W.seq fun K49 hK49 => ?_
  refine W.cond_true true (by kernel_rfl) rfl ?_
  refine W.skip ?_
  refine hK49 _ _ ?_
  refine W.seq fun K50 hK50 => ?_
  refine W.block ?_
  refine W.sr fun K51 hK51 => ?_
  refine zR 1 ?_
  refine zN [(.int .u8 0), (.int .i64 0), (.int .i64 0)] 142 hs47 fun b54 w52 hs53 => ?_
  refine ops_store (off := 0) (cs := [(.int .u8 0), (.int .i64 0), (.int .i64 0)]) (vs := [(.int .u8 6), (.int .i64 8), (.int .i64 1)]) hs53 (by kernel_rfl) (by simp) rfl (fun w55 hs56 => ?_)
  have hs57 : St B w [] w55 [blk b54 (.cells [(.int .u8 6), (.int .i64 8), (.int .i64 1)].toArray 142 (0, 0)), blk b44 (.cells [(.int .u8 5), (.int .i64 208), (.int .i64 gw)].toArray 142 (0, 0)), blk b34 (.cells [(.int .u8 2), (.int .i64 64), (.int .i64 4)].toArray 142 (0, 0)), blk b24 (.cells [(.int .u8 1), (.int .i64 8), (.int .i64 1)].toArray 142 (0, 0)), blk b4 (.cells [(.int .i64 gw), (.int .i64 gi), (.int .i64 gb)].toArray 31 (0, 0))] := hs56
  refine zD (hK51 _ _ ?_)
  refine W.region ?_
  refine zR 2 ?_
  refine zL ⟨b54, 1, none⟩ (.int .i64 8) (hs57.cellAt 0 rfl rfl) ?_
  refine zR 1 ?_
  refine zL ⟨b54, 2, none⟩ (.int .i64 1) (hs57.cellAt 0 rfl rfl) ?_
  refine zR 1 ?_
  refine zI ((264 + (208 * gw)) + 8) (wrap_i64 (by omega) (by omega)) ?_
  refine zE 1 ?_
  refine normal_block ?_
  refine hK50 _ _ ?_
  refine W.region ?_
  refine zE 2 ?_
  refine loopAt_next ?_
  refine loopAt_round ?_
  refine W.sr fun K58 hK58 => ?_
  refine zE 1 (hK58 _ _ ?_)
  refine W.seq fun K59 hK59 => ?_
  refine W.cond_true true (by kernel_rfl) rfl ?_
  refine W.skip ?_
  refine hK59 _ _ ?_
  refine W.seq fun K60 hK60 => ?_
  refine W.block ?_
  refine W.sr fun K61 hK61 => ?_
  refine zR 1 ?_
  refine zN [(.int .u8 0), (.int .i64 0), (.int .i64 0)] 142 hs57 fun b64 w62 hs63 => ?_
  refine ops_store (off := 0) (cs := [(.int .u8 0), (.int .i64 0), (.int .i64 0)]) (vs := [(.int .u8 7), (.int .i64 8), (.int .i64 1)]) hs63 (by kernel_rfl) (by simp) rfl (fun w65 hs66 => ?_)
  have hs67 : St B w [] w65 [blk b64 (.cells [(.int .u8 7), (.int .i64 8), (.int .i64 1)].toArray 142 (0, 0)), blk b54 (.cells [(.int .u8 6), (.int .i64 8), (.int .i64 1)].toArray 142 (0, 0)), blk b44 (.cells [(.int .u8 5), (.int .i64 208), (.int .i64 gw)].toArray 142 (0, 0)), blk b34 (.cells [(.int .u8 2), (.int .i64 64), (.int .i64 4)].toArray 142 (0, 0)), blk b24 (.cells [(.int .u8 1), (.int .i64 8), (.int .i64 1)].toArray 142 (0, 0)), blk b4 (.cells [(.int .i64 gw), (.int .i64 gi), (.int .i64 gb)].toArray 31 (0, 0))] := hs66
  refine zD (hK61 _ _ ?_)
  refine W.region ?_
  refine zR 2 ?_
  refine zL ⟨b64, 1, none⟩ (.int .i64 8) (hs67.cellAt 0 rfl rfl) ?_
  refine zR 1 ?_
  refine zL ⟨b64, 2, none⟩ (.int .i64 1) (hs67.cellAt 0 rfl rfl) ?_
  refine zR 1 ?_
  refine zI (((264 + (208 * gw)) + 8) + 8) (wrap_i64 (by omega) (by omega)) ?_
  refine zE 1 ?_
  refine normal_block ?_
  refine hK60 _ _ ?_
  refine W.region ?_
  refine zE 2 ?_
  refine loopAt_next ?_
  refine loopAt_round ?_
  refine W.sr fun K68 hK68 => ?_
  refine zE 1 (hK68 _ _ ?_)
  refine W.seq fun K69 hK69 => ?_
  refine W.cond_true true (by kernel_rfl) rfl ?_
  refine W.skip ?_
  refine hK69 _ _ ?_
  refine W.seq fun K70 hK70 => ?_
  refine W.block ?_
  refine W.sr fun K71 hK71 => ?_
  refine zR 1 ?_
  refine zN [(.int .u8 0), (.int .i64 0), (.int .i64 0)] 142 hs67 fun b74 w72 hs73 => ?_
  refine ops_store (off := 0) (cs := [(.int .u8 0), (.int .i64 0), (.int .i64 0)]) (vs := [(.int .u8 8), (.int .i64 16), (.int .i64 gi)]) hs73 (by kernel_rfl) (by simp) rfl (fun w75 hs76 => ?_)
  have hs77 : St B w [] w75 [blk b74 (.cells [(.int .u8 8), (.int .i64 16), (.int .i64 gi)].toArray 142 (0, 0)), blk b64 (.cells [(.int .u8 7), (.int .i64 8), (.int .i64 1)].toArray 142 (0, 0)), blk b54 (.cells [(.int .u8 6), (.int .i64 8), (.int .i64 1)].toArray 142 (0, 0)), blk b44 (.cells [(.int .u8 5), (.int .i64 208), (.int .i64 gw)].toArray 142 (0, 0)), blk b34 (.cells [(.int .u8 2), (.int .i64 64), (.int .i64 4)].toArray 142 (0, 0)), blk b24 (.cells [(.int .u8 1), (.int .i64 8), (.int .i64 1)].toArray 142 (0, 0)), blk b4 (.cells [(.int .i64 gw), (.int .i64 gi), (.int .i64 gb)].toArray 31 (0, 0))] := hs76
  refine zD (hK71 _ _ ?_)
  refine W.region ?_
  refine zR 2 ?_
  refine zL ⟨b74, 1, none⟩ (.int .i64 16) (hs77.cellAt 0 rfl rfl) ?_
  refine zR 1 ?_
  refine zL ⟨b74, 2, none⟩ (.int .i64 gi) (hs77.cellAt 0 rfl rfl) ?_
  refine zI (16 * gi) (wrap_i64 (by omega) (by omega)) ?_
  refine zI ((((264 + (208 * gw)) + 8) + 8) + (16 * gi)) (wrap_i64 (by omega) (by omega)) ?_
  refine zE 1 ?_
  refine normal_block ?_
  refine hK70 _ _ ?_
  refine W.region ?_
  refine zE 2 ?_
  refine loopAt_next ?_
  refine loopAt_round ?_
  refine W.sr fun K78 hK78 => ?_
  refine zE 1 (hK78 _ _ ?_)
  refine W.seq fun K79 hK79 => ?_
  refine W.cond_true true (by kernel_rfl) rfl ?_
  refine W.skip ?_
  refine hK79 _ _ ?_
  refine W.seq fun K80 hK80 => ?_
  refine W.block ?_
  refine W.sr fun K81 hK81 => ?_
  refine zR 1 ?_
  refine zN [(.int .u8 0), (.int .i64 0), (.int .i64 0)] 142 hs77 fun b84 w82 hs83 => ?_
  refine ops_store (off := 0) (cs := [(.int .u8 0), (.int .i64 0), (.int .i64 0)]) (vs := [(.int .u8 9), (.int .i64 8), (.int .i64 gb)]) hs83 (by kernel_rfl) (by simp) rfl (fun w85 hs86 => ?_)
  have hs87 : St B w [] w85 [blk b84 (.cells [(.int .u8 9), (.int .i64 8), (.int .i64 gb)].toArray 142 (0, 0)), blk b74 (.cells [(.int .u8 8), (.int .i64 16), (.int .i64 gi)].toArray 142 (0, 0)), blk b64 (.cells [(.int .u8 7), (.int .i64 8), (.int .i64 1)].toArray 142 (0, 0)), blk b54 (.cells [(.int .u8 6), (.int .i64 8), (.int .i64 1)].toArray 142 (0, 0)), blk b44 (.cells [(.int .u8 5), (.int .i64 208), (.int .i64 gw)].toArray 142 (0, 0)), blk b34 (.cells [(.int .u8 2), (.int .i64 64), (.int .i64 4)].toArray 142 (0, 0)), blk b24 (.cells [(.int .u8 1), (.int .i64 8), (.int .i64 1)].toArray 142 (0, 0)), blk b4 (.cells [(.int .i64 gw), (.int .i64 gi), (.int .i64 gb)].toArray 31 (0, 0))] := hs86
  refine zD (hK81 _ _ ?_)
  refine W.region ?_
  refine zR 2 ?_
  refine zL ⟨b84, 1, none⟩ (.int .i64 8) (hs87.cellAt 0 rfl rfl) ?_
  refine zR 1 ?_
  refine zL ⟨b84, 2, none⟩ (.int .i64 gb) (hs87.cellAt 0 rfl rfl) ?_
  refine zI (8 * gb) (wrap_i64 (by omega) (by omega)) ?_
  refine zI (((((264 + (208 * gw)) + 8) + 8) + (16 * gi)) + (8 * gb)) (wrap_i64 (by omega) (by omega)) ?_
  refine zE 1 ?_
  refine normal_block ?_
  refine hK80 _ _ ?_
  refine W.region ?_
  refine zE 2 ?_
  refine loopAt_next ?_
  refine loopAt_round ?_
  refine W.sr fun K88 hK88 => ?_
  refine zE 1 (hK88 _ _ ?_)
  refine W.seq fun K89 hK89 => ?_
  refine W.cond_false false (by kernel_rfl) rfl ?_
  refine W.exit (exit_seq (exit_seq (exit_here ?_)))
  refine hK13 _ _ ?_
  refine W.sr fun K90 hK90 => ?_
  refine zE 2 (hK90 _ _ ?_)
  refine W.ret ?_
  have hs91 := St.tk0 hs87
  refine ret_of (.int .i64 (((((264 + (208 * gw)) + 8) + 8) + (16 * gi)) + (8 * gb))) (by kernel_rfl) ⟨_, ⟨congrArg (Value.int .i64) (by first | contradiction | (simp only [wordsOf, if_pos hm]; omega) | (simp only [wordsOf, if_neg hm]; done)), rfl⟩, hs91⟩

theorem place6_may {gw gi gb n_ : Int} (B : Nat) (w : World) (hm : May gw gi gb) : Spec Tryz.prog 91 #[(.agg #[(.int .i64 gw), (.int .i64 gi), (.int .i64 gb)]), (.int .u8 6), (.int .i64 n_)] B w [] (fun v H' => v = .int .i64 (placeOf 6 gw gi gb n_) ∧ H' = []) := by
 refine spec_Q Tryz.func91 rfl fun hs => ?_
 have hm_ : (1 ≤ gw ∧ gw ≤ 4) ∧ (2 ≤ gi ∧ gi ≤ 64) ∧ (2 ≤ gb ∧ gb ≤ 512) := hm
 refine W.sr fun K1 hK1 => ?_
 refine zN [(.int .i64 gw), (.int .i64 gi), (.int .i64 gb)] 31 hs fun b4 w2 hs3 => ?_
 refine zE 1 (hK1 _ _ ?_)
 refine W.sr fun K5 hK5 => ?_
 refine zE 1 (hK5 _ _ ?_)
 refine W.seq fun K6 hK6 => ?_
 refine W.sr fun K7 hK7 => ?_
 refine ops_R (runs_loadAgg (ad := ⟨b4, 0, none⟩) (cs := [(.int .i64 gw), (.int .i64 gi), (.int .i64 gb)]) (by kernel_rfl) (cells_sub (hs3.heapAt 0 rfl) rfl)) ?_
 refine zC00 hs3 (rows_spec (gw := gw) (gi := gi) (gb := gb) B _) fun w8 hs10 => ?_
 refine zE 1 (hK7 _ _ ?_)
 refine W.block ?_
 refine W.loop_start ?_
 refine loopAt_round ?_
 refine W.sr fun K11 hK11 => ?_
 refine zE 1 (hK11 _ _ ?_)
 refine W.seq fun K12 hK12 => ?_
 refine W.cond_true true (by kernel_rfl) rfl ?_
 refine W.skip ?_
 refine hK12 _ _ ?_
 refine W.seq fun K13 hK13 => ?_
 refine W.block ?_
 refine W.sr fun K14 hK14 => ?_
 refine zR 1 ?_
 refine zN [(.int .u8 0), (.int .i64 0), (.int .i64 0)] 142 hs10 fun b17 w15 hs16 => ?_
 refine ops_store (off := 0) (cs := [(.int .u8 0), (.int .i64 0), (.int .i64 0)]) (vs := [(.int .u8 1), (.int .i64 8), (.int .i64 1)]) hs16 (by kernel_rfl) (by simp) rfl (fun w18 hs19 => ?_)
 have hs20 : St B w [] w18 [blk b17 (.cells [(.int .u8 1), (.int .i64 8), (.int .i64 1)].toArray 142 (0, 0)), blk b4 (.cells [(.int .i64 gw), (.int .i64 gi), (.int .i64 gb)].toArray 31 (0, 0))] := hs19
 refine zD (hK14 _ _ ?_)
 refine W.seq fun K21 hK21 => ?_
 refine W.sr fun K22 hK22 => ?_
 refine zR 1 ?_
 refine zL ⟨b17, 0, none⟩ (.int .u8 1) (hs20.cellAt 0 rfl rfl) ?_
 refine zE 2 (hK22 _ _ ?_)
 refine W.cond_true true (by kernel_rfl) rfl ?_
 refine W.sr fun K23 hK23 => ?_
 refine zR 2 ?_
 refine zL ⟨b17, 1, none⟩ (.int .i64 8) (hs20.cellAt 0 rfl rfl) ?_
 refine zR 1 ?_
 refine zL ⟨b17, 2, none⟩ (.int .i64 1) (hs20.cellAt 0 rfl rfl) ?_
 refine zE 3 (hK23 _ _ ?_)
 refine W.exit (exit_seq (exit_here ?_))
 refine hK13 _ _ ?_
 refine W.region ?_
 refine zE 2 ?_
 refine loopAt_next ?_
 refine loopAt_round ?_
 refine W.sr fun K24 hK24 => ?_
 refine zE 1 (hK24 _ _ ?_)
 refine W.seq fun K25 hK25 => ?_
 refine W.cond_true true (by kernel_rfl) rfl ?_
 refine W.skip ?_
 refine hK25 _ _ ?_
 refine W.seq fun K26 hK26 => ?_
 refine W.block ?_
 refine W.sr fun K27 hK27 => ?_
 refine zR 1 ?_
 refine zN [(.int .u8 0), (.int .i64 0), (.int .i64 0)] 142 hs20 fun b30 w28 hs29 => ?_
 refine ops_store (off := 0) (cs := [(.int .u8 0), (.int .i64 0), (.int .i64 0)]) (vs := [(.int .u8 2), (.int .i64 64), (.int .i64 4)]) hs29 (by kernel_rfl) (by simp) rfl (fun w31 hs32 => ?_)
 have hs33 : St B w [] w31 [blk b30 (.cells [(.int .u8 2), (.int .i64 64), (.int .i64 4)].toArray 142 (0, 0)), blk b17 (.cells [(.int .u8 1), (.int .i64 8), (.int .i64 1)].toArray 142 (0, 0)), blk b4 (.cells [(.int .i64 gw), (.int .i64 gi), (.int .i64 gb)].toArray 31 (0, 0))] := hs32
 refine zD (hK27 _ _ ?_)
 refine W.seq fun K34 hK34 => ?_
 refine W.sr fun K35 hK35 => ?_
 refine zR 1 ?_
 refine zL ⟨b30, 0, none⟩ (.int .u8 2) (hs33.cellAt 0 rfl rfl) ?_
 refine zE 2 (hK35 _ _ ?_)
 refine W.cond_true true (by kernel_rfl) rfl ?_
 refine W.sr fun K36 hK36 => ?_
 refine zR 2 ?_
 refine zL ⟨b30, 1, none⟩ (.int .i64 64) (hs33.cellAt 0 rfl rfl) ?_
 refine zR 1 ?_
 refine zL ⟨b30, 2, none⟩ (.int .i64 4) (hs33.cellAt 0 rfl rfl) ?_
 refine zE 3 (hK36 _ _ ?_)
 refine W.exit (exit_seq (exit_here ?_))
 refine hK26 _ _ ?_
 refine W.region ?_
 refine zE 2 ?_
 refine loopAt_next ?_
 refine loopAt_round ?_
 refine W.sr fun K37 hK37 => ?_
 refine zE 1 (hK37 _ _ ?_)
 refine W.seq fun K38 hK38 => ?_
 refine W.cond_true true (by kernel_rfl) rfl ?_
 refine W.skip ?_
 refine hK38 _ _ ?_
 refine W.seq fun K39 hK39 => ?_
 refine W.block ?_
 refine W.sr fun K40 hK40 => ?_
 refine zR 1 ?_
 refine zN [(.int .u8 0), (.int .i64 0), (.int .i64 0)] 142 hs33 fun b43 w41 hs42 => ?_
 refine ops_store (off := 0) (cs := [(.int .u8 0), (.int .i64 0), (.int .i64 0)]) (vs := [(.int .u8 5), (.int .i64 208), (.int .i64 gw)]) hs42 (by kernel_rfl) (by simp) rfl (fun w44 hs45 => ?_)
 have hs46 : St B w [] w44 [blk b43 (.cells [(.int .u8 5), (.int .i64 208), (.int .i64 gw)].toArray 142 (0, 0)), blk b30 (.cells [(.int .u8 2), (.int .i64 64), (.int .i64 4)].toArray 142 (0, 0)), blk b17 (.cells [(.int .u8 1), (.int .i64 8), (.int .i64 1)].toArray 142 (0, 0)), blk b4 (.cells [(.int .i64 gw), (.int .i64 gi), (.int .i64 gb)].toArray 31 (0, 0))] := hs45
 refine zD (hK40 _ _ ?_)
 refine W.seq fun K47 hK47 => ?_
 refine W.sr fun K48 hK48 => ?_
 refine zR 1 ?_
 refine zL ⟨b43, 0, none⟩ (.int .u8 5) (hs46.cellAt 0 rfl rfl) ?_
 refine zE 2 (hK48 _ _ ?_)
 refine W.cond_true true (by kernel_rfl) rfl ?_
 refine W.sr fun K49 hK49 => ?_
 refine zR 2 ?_
 refine zL ⟨b43, 1, none⟩ (.int .i64 208) (hs46.cellAt 0 rfl rfl) ?_
 refine zR 1 ?_
 refine zL ⟨b43, 2, none⟩ (.int .i64 gw) (hs46.cellAt 0 rfl rfl) ?_
 refine zI (208 * gw) (wrap_i64 (by omega) (by omega)) ?_
 refine zI (264 + (208 * gw)) (wrap_i64 (by omega) (by omega)) ?_
 refine zE 1 (hK49 _ _ ?_)
 refine W.exit (exit_seq (exit_here ?_))
 refine hK39 _ _ ?_
 refine W.region ?_
 refine zE 2 ?_
 refine loopAt_next ?_
 refine loopAt_round ?_
 refine W.sr fun K50 hK50 => ?_
 refine zE 1 (hK50 _ _ ?_)
 refine W.seq fun K51 hK51 => ?_
 refine W.cond_true true (by kernel_rfl) rfl ?_
 refine W.skip ?_
 refine hK51 _ _ ?_
 refine W.seq fun K52 hK52 => ?_
 refine W.block ?_
 refine W.sr fun K53 hK53 => ?_
 refine zR 1 ?_
 refine zN [(.int .u8 0), (.int .i64 0), (.int .i64 0)] 142 hs46 fun b56 w54 hs55 => ?_
 refine ops_store (off := 0) (cs := [(.int .u8 0), (.int .i64 0), (.int .i64 0)]) (vs := [(.int .u8 6), (.int .i64 8), (.int .i64 1)]) hs55 (by kernel_rfl) (by simp) rfl (fun w57 hs58 => ?_)
 have hs59 : St B w [] w57 [blk b56 (.cells [(.int .u8 6), (.int .i64 8), (.int .i64 1)].toArray 142 (0, 0)), blk b43 (.cells [(.int .u8 5), (.int .i64 208), (.int .i64 gw)].toArray 142 (0, 0)), blk b30 (.cells [(.int .u8 2), (.int .i64 64), (.int .i64 4)].toArray 142 (0, 0)), blk b17 (.cells [(.int .u8 1), (.int .i64 8), (.int .i64 1)].toArray 142 (0, 0)), blk b4 (.cells [(.int .i64 gw), (.int .i64 gi), (.int .i64 gb)].toArray 31 (0, 0))] := hs58
 refine zD (hK53 _ _ ?_)
 refine W.seq fun K60 hK60 => ?_
 refine W.sr fun K61 hK61 => ?_
 refine zR 1 ?_
 refine zL ⟨b56, 0, none⟩ (.int .u8 6) (hs59.cellAt 0 rfl rfl) ?_
 refine zE 2 (hK61 _ _ ?_)
 refine W.cond_false false (by kernel_rfl) rfl ?_
 refine W.skip ?_
 refine hK60 _ _ ?_
 refine W.seq fun K62 hK62 => ?_
 refine W.sr fun K63 hK63 => ?_
 refine ops_R (runs_loadAgg (ad := ⟨b4, 0, none⟩) (cs := [(.int .i64 gw), (.int .i64 gi), (.int .i64 gb)]) (by kernel_rfl) (cells_sub (hs59.heapAt 4 rfl) rfl)) ?_
 refine zC00 hs59 (may_spec (gw := gw) (gi := gi) (gb := gb) B _) fun w64 hs66 => ?_
 refine zR 1 ?_
 rcases Bool.eq_false_or_eq_true (decide (May gw gi gb)) with h67 | h67
 ·
  have h67p := of_decide_eq_true h67
  refine zS 28 h67 ?_
  refine zS 27 h67 ?_
  refine zR 2 ?_
  refine zL ⟨b56, 2, none⟩ (.int .i64 1) (hs66.cellAt 0 rfl rfl) ?_
  refine zR 1 ?_
  refine zC00 hs66 (within_spec (n_ := n_) (f_ := 0) (t_ := 0) B _) fun w68 hs70 => ?_
  refine zE 1 (hK63 _ _ ?_)
  refine W.cond (decide (0 ≤ n_ ∧ n_ ≤ 0)) (by kernel_rfl) (fun h71 => ?_) (fun h71 => ?_)
  ·
   have h71p := of_decide_eq_true h71
   refine W.sr fun K72 hK72 => ?_
   refine zR 2 ?_
   refine zL ⟨b56, 1, none⟩ (.int .i64 8) (hs70.cellAt 0 rfl rfl) ?_
   refine zR 1 ?_
   refine zI (8 * n_) (wrap_i64 (by omega) (by omega)) ?_
   refine zI ((264 + (208 * gw)) + (8 * n_)) (wrap_i64 (by omega) (by omega)) ?_
   refine zE 1 (hK72 _ _ ?_)
   refine W.ret (ret_seq (ret_block (ret_seq (ret_seq (ret_block (ret_seq ?_))))))
   have hs73 := St.tk0 hs70
   refine ret_of (.int .i64 ((264 + (208 * gw)) + (8 * n_))) (by kernel_rfl) ⟨_, ⟨congrArg (Value.int .i64) (by first | contradiction | (simp only [placeOf, if_pos hm]; split <;> omega) | (simp only [placeOf, if_neg hm]; done) | (simp only [placeOf, if_pos hm]; omega)), rfl⟩, hs73⟩
  ·
   have h71p := of_decide_eq_false h71
   refine W.skip ?_
   refine hK62 _ _ ?_
   refine W.exit (exit_block (by decide) (exit_seq (exit_seq (exit_here ?_))))
   refine hK6 _ _ ?_
   refine W.sr fun K74 hK74 => ?_
   refine zE 1 (hK74 _ _ ?_)
   refine W.ret ?_
   have hs75 := St.tk0 hs70
   refine ret_of (.int .i64 (-1)) (by kernel_rfl) ⟨_, ⟨congrArg (Value.int .i64) (by first | contradiction | (simp only [placeOf, if_pos hm]; split <;> omega) | (simp only [placeOf, if_neg hm]; done) | (simp only [placeOf, if_pos hm]; omega)), rfl⟩, hs75⟩
 ·
  have h67p := of_decide_eq_false h67
  refine zS 28 h67 ?_
  refine zS 27 h67 ?_
  refine zE 6 (hK63 _ _ ?_)
  refine W.cond_false false (by kernel_rfl) rfl ?_
  refine W.skip ?_
  refine hK62 _ _ ?_
  refine W.exit (exit_block (by decide) (exit_seq (exit_seq (exit_here ?_))))
  refine hK6 _ _ ?_
  refine W.sr fun K76 hK76 => ?_
  refine zE 1 (hK76 _ _ ?_)
  refine W.ret ?_
  have hs77 := St.tk0 hs66
  refine ret_of (.int .i64 (-1)) (by kernel_rfl) ⟨_, ⟨congrArg (Value.int .i64) (by first | contradiction | (simp only [placeOf, if_pos hm]; split <;> omega) | (simp only [placeOf, if_neg hm]; done) | (simp only [placeOf, if_pos hm]; omega)), rfl⟩, hs77⟩

theorem place6_not {gw gi gb n_ : Int} (B : Nat) (w : World) (hm : ¬ May gw gi gb) : Spec Tryz.prog 91 #[(.agg #[(.int .i64 gw), (.int .i64 gi), (.int .i64 gb)]), (.int .u8 6), (.int .i64 n_)] B w [] (fun v H' => v = .int .i64 (placeOf 6 gw gi gb n_) ∧ H' = []) := by
 refine spec_Q Tryz.func91 rfl fun hs => ?_
 refine W.sr fun K1 hK1 => ?_
 refine zN [(.int .i64 gw), (.int .i64 gi), (.int .i64 gb)] 31 hs fun b4 w2 hs3 => ?_
 refine zE 1 (hK1 _ _ ?_)
 refine W.sr fun K5 hK5 => ?_
 refine zE 1 (hK5 _ _ ?_)
 refine W.seq fun K6 hK6 => ?_
 refine W.sr fun K7 hK7 => ?_
 refine ops_R (runs_loadAgg (ad := ⟨b4, 0, none⟩) (cs := [(.int .i64 gw), (.int .i64 gi), (.int .i64 gb)]) (by kernel_rfl) (cells_sub (hs3.heapAt 0 rfl) rfl)) ?_
 refine zC00 hs3 (rows_spec (gw := gw) (gi := gi) (gb := gb) B _) fun w8 hs10 => ?_
 refine zE 1 (hK7 _ _ ?_)
 refine W.block ?_
 refine W.loop_start ?_
 refine loopAt_round ?_
 refine W.sr fun K11 hK11 => ?_
 refine zE 1 (hK11 _ _ ?_)
 refine W.seq fun K12 hK12 => ?_
 refine W.cond_true true (by kernel_rfl) rfl ?_
 refine W.skip ?_
 refine hK12 _ _ ?_
 refine W.seq fun K13 hK13 => ?_
 refine W.block ?_
 refine W.sr fun K14 hK14 => ?_
 refine zR 1 ?_
 refine zN [(.int .u8 0), (.int .i64 0), (.int .i64 0)] 142 hs10 fun b17 w15 hs16 => ?_
 refine ops_store (off := 0) (cs := [(.int .u8 0), (.int .i64 0), (.int .i64 0)]) (vs := [(.int .u8 1), (.int .i64 8), (.int .i64 1)]) hs16 (by kernel_rfl) (by simp) rfl (fun w18 hs19 => ?_)
 have hs20 : St B w [] w18 [blk b17 (.cells [(.int .u8 1), (.int .i64 8), (.int .i64 1)].toArray 142 (0, 0)), blk b4 (.cells [(.int .i64 gw), (.int .i64 gi), (.int .i64 gb)].toArray 31 (0, 0))] := hs19
 refine zD (hK14 _ _ ?_)
 refine W.seq fun K21 hK21 => ?_
 refine W.sr fun K22 hK22 => ?_
 refine zR 1 ?_
 refine zL ⟨b17, 0, none⟩ (.int .u8 1) (hs20.cellAt 0 rfl rfl) ?_
 refine zE 2 (hK22 _ _ ?_)
 refine W.cond_true true (by kernel_rfl) rfl ?_
 refine W.sr fun K23 hK23 => ?_
 refine zR 2 ?_
 refine zL ⟨b17, 1, none⟩ (.int .i64 8) (hs20.cellAt 0 rfl rfl) ?_
 refine zR 1 ?_
 refine zL ⟨b17, 2, none⟩ (.int .i64 1) (hs20.cellAt 0 rfl rfl) ?_
 refine zE 3 (hK23 _ _ ?_)
 refine W.exit (exit_seq (exit_here ?_))
 refine hK13 _ _ ?_
 refine W.region ?_
 refine zE 2 ?_
 refine loopAt_next ?_
 refine loopAt_round ?_
 refine W.sr fun K24 hK24 => ?_
 refine zE 1 (hK24 _ _ ?_)
 refine W.seq fun K25 hK25 => ?_
 refine W.cond_true true (by kernel_rfl) rfl ?_
 refine W.skip ?_
 refine hK25 _ _ ?_
 refine W.seq fun K26 hK26 => ?_
 refine W.block ?_
 refine W.sr fun K27 hK27 => ?_
 refine zR 1 ?_
 refine zN [(.int .u8 0), (.int .i64 0), (.int .i64 0)] 142 hs20 fun b30 w28 hs29 => ?_
 refine ops_store (off := 0) (cs := [(.int .u8 0), (.int .i64 0), (.int .i64 0)]) (vs := [(.int .u8 2), (.int .i64 64), (.int .i64 4)]) hs29 (by kernel_rfl) (by simp) rfl (fun w31 hs32 => ?_)
 have hs33 : St B w [] w31 [blk b30 (.cells [(.int .u8 2), (.int .i64 64), (.int .i64 4)].toArray 142 (0, 0)), blk b17 (.cells [(.int .u8 1), (.int .i64 8), (.int .i64 1)].toArray 142 (0, 0)), blk b4 (.cells [(.int .i64 gw), (.int .i64 gi), (.int .i64 gb)].toArray 31 (0, 0))] := hs32
 refine zD (hK27 _ _ ?_)
 refine W.seq fun K34 hK34 => ?_
 refine W.sr fun K35 hK35 => ?_
 refine zR 1 ?_
 refine zL ⟨b30, 0, none⟩ (.int .u8 2) (hs33.cellAt 0 rfl rfl) ?_
 refine zE 2 (hK35 _ _ ?_)
 refine W.cond_true true (by kernel_rfl) rfl ?_
 refine W.sr fun K36 hK36 => ?_
 refine zR 2 ?_
 refine zL ⟨b30, 1, none⟩ (.int .i64 64) (hs33.cellAt 0 rfl rfl) ?_
 refine zR 1 ?_
 refine zL ⟨b30, 2, none⟩ (.int .i64 4) (hs33.cellAt 0 rfl rfl) ?_
 refine zE 3 (hK36 _ _ ?_)
 refine W.exit (exit_seq (exit_here ?_))
 refine hK26 _ _ ?_
 refine W.region ?_
 refine zE 2 ?_
 refine loopAt_next ?_
 refine loopAt_round ?_
 refine W.sr fun K37 hK37 => ?_
 refine zE 1 (hK37 _ _ ?_)
 refine W.seq fun K38 hK38 => ?_
 refine W.cond_true true (by kernel_rfl) rfl ?_
 refine W.skip ?_
 refine hK38 _ _ ?_
 refine W.seq fun K39 hK39 => ?_
 refine W.block ?_
 refine W.sr fun K40 hK40 => ?_
 refine zR 1 ?_
 refine zN [(.int .u8 0), (.int .i64 0), (.int .i64 0)] 142 hs33 fun b43 w41 hs42 => ?_
 refine ops_store (off := 0) (cs := [(.int .u8 0), (.int .i64 0), (.int .i64 0)]) (vs := [(.int .u8 5), (.int .i64 208), (.int .i64 gw)]) hs42 (by kernel_rfl) (by simp) rfl (fun w44 hs45 => ?_)
 have hs46 : St B w [] w44 [blk b43 (.cells [(.int .u8 5), (.int .i64 208), (.int .i64 gw)].toArray 142 (0, 0)), blk b30 (.cells [(.int .u8 2), (.int .i64 64), (.int .i64 4)].toArray 142 (0, 0)), blk b17 (.cells [(.int .u8 1), (.int .i64 8), (.int .i64 1)].toArray 142 (0, 0)), blk b4 (.cells [(.int .i64 gw), (.int .i64 gi), (.int .i64 gb)].toArray 31 (0, 0))] := hs45
 refine zD (hK40 _ _ ?_)
 refine W.seq fun K47 hK47 => ?_
 refine W.sr fun K48 hK48 => ?_
 refine zR 1 ?_
 refine zL ⟨b43, 0, none⟩ (.int .u8 5) (hs46.cellAt 0 rfl rfl) ?_
 refine zE 2 (hK48 _ _ ?_)
 refine W.cond_true true (by kernel_rfl) rfl ?_
 refine W.sr fun K49 hK49 => ?_
 refine zR 2 ?_
 refine zL ⟨b43, 1, none⟩ (.int .i64 208) (hs46.cellAt 0 rfl rfl) ?_
 refine zR 1 ?_
 refine zL ⟨b43, 2, none⟩ (.int .i64 gw) (hs46.cellAt 0 rfl rfl) ?_
 refine ops_val (v := .int .i64 (IntKind.i64.wrap (208 * gw))) (v' := .int .i64 (IntKind.i64.wrap (208 * gw))) (by kernel_rfl) rfl ?_
 refine ops_val (v := .int .i64 (IntKind.i64.wrap (264 + (IntKind.i64.wrap (208 * gw))))) (v' := .int .i64 (IntKind.i64.wrap (264 + (IntKind.i64.wrap (208 * gw))))) (by kernel_rfl) rfl ?_
 refine zE 1 (hK49 _ _ ?_)
 refine W.exit (exit_seq (exit_here ?_))
 refine hK39 _ _ ?_
 refine W.region ?_
 refine zE 2 ?_
 refine loopAt_next ?_
 refine loopAt_round ?_
 refine W.sr fun K50 hK50 => ?_
 refine zE 1 (hK50 _ _ ?_)
 refine W.seq fun K51 hK51 => ?_
 refine W.cond_true true (by kernel_rfl) rfl ?_
 refine W.skip ?_
 refine hK51 _ _ ?_
 refine W.seq fun K52 hK52 => ?_
 refine W.block ?_
 refine W.sr fun K53 hK53 => ?_
 refine zR 1 ?_
 refine zN [(.int .u8 0), (.int .i64 0), (.int .i64 0)] 142 hs46 fun b56 w54 hs55 => ?_
 refine ops_store (off := 0) (cs := [(.int .u8 0), (.int .i64 0), (.int .i64 0)]) (vs := [(.int .u8 6), (.int .i64 8), (.int .i64 1)]) hs55 (by kernel_rfl) (by simp) rfl (fun w57 hs58 => ?_)
 have hs59 : St B w [] w57 [blk b56 (.cells [(.int .u8 6), (.int .i64 8), (.int .i64 1)].toArray 142 (0, 0)), blk b43 (.cells [(.int .u8 5), (.int .i64 208), (.int .i64 gw)].toArray 142 (0, 0)), blk b30 (.cells [(.int .u8 2), (.int .i64 64), (.int .i64 4)].toArray 142 (0, 0)), blk b17 (.cells [(.int .u8 1), (.int .i64 8), (.int .i64 1)].toArray 142 (0, 0)), blk b4 (.cells [(.int .i64 gw), (.int .i64 gi), (.int .i64 gb)].toArray 31 (0, 0))] := hs58
 refine zD (hK53 _ _ ?_)
 refine W.seq fun K60 hK60 => ?_
 refine W.sr fun K61 hK61 => ?_
 refine zR 1 ?_
 refine zL ⟨b56, 0, none⟩ (.int .u8 6) (hs59.cellAt 0 rfl rfl) ?_
 refine zE 2 (hK61 _ _ ?_)
 refine W.cond_false false (by kernel_rfl) rfl ?_
 refine W.skip ?_
 refine hK60 _ _ ?_
 refine W.seq fun K62 hK62 => ?_
 refine W.sr fun K63 hK63 => ?_
 refine ops_R (runs_loadAgg (ad := ⟨b4, 0, none⟩) (cs := [(.int .i64 gw), (.int .i64 gi), (.int .i64 gb)]) (by kernel_rfl) (cells_sub (hs59.heapAt 4 rfl) rfl)) ?_
 refine zC00 hs59 (may_spec (gw := gw) (gi := gi) (gb := gb) B _) fun w64 hs66 => ?_
 refine zR 1 ?_
 rcases Bool.eq_false_or_eq_true (decide (May gw gi gb)) with h67 | h67
 ·
  have h67p := of_decide_eq_true h67
  refine zS 28 h67 ?_
  refine zS 27 h67 ?_
  refine zR 2 ?_
  refine zL ⟨b56, 2, none⟩ (.int .i64 1) (hs66.cellAt 0 rfl rfl) ?_
  refine zR 1 ?_
  refine zC00 hs66 (within_spec (n_ := n_) (f_ := 0) (t_ := 0) B _) fun w68 hs70 => ?_
  refine zE 1 (hK63 _ _ ?_)
  refine W.cond (decide (0 ≤ n_ ∧ n_ ≤ 0)) (by kernel_rfl) (fun h71 => ?_) (fun h71 => ?_)
  ·
   have h71p := of_decide_eq_true h71
   refine W.sr fun K72 hK72 => ?_
   refine zR 2 ?_
   refine zL ⟨b56, 1, none⟩ (.int .i64 8) (hs70.cellAt 0 rfl rfl) ?_
   refine zR 1 ?_
   refine ops_val (v := .int .i64 (IntKind.i64.wrap (8 * n_))) (v' := .int .i64 (IntKind.i64.wrap (8 * n_))) (by kernel_rfl) rfl ?_
   refine ops_val (v := .int .i64 (IntKind.i64.wrap ((IntKind.i64.wrap (264 + (IntKind.i64.wrap (208 * gw)))) + (IntKind.i64.wrap (8 * n_))))) (v' := .int .i64 (IntKind.i64.wrap ((IntKind.i64.wrap (264 + (IntKind.i64.wrap (208 * gw)))) + (IntKind.i64.wrap (8 * n_))))) (by kernel_rfl) rfl ?_
   refine zE 1 (hK72 _ _ ?_)
   refine W.ret (ret_seq (ret_block (ret_seq (ret_seq (ret_block (ret_seq ?_))))))
   have hs73 := St.tk0 hs70
   refine ret_of (.int .i64 (IntKind.i64.wrap ((IntKind.i64.wrap (264 + (IntKind.i64.wrap (208 * gw)))) + (IntKind.i64.wrap (8 * n_))))) (by kernel_rfl) ⟨_, ⟨congrArg (Value.int .i64) (by first | contradiction | (simp only [placeOf, if_pos hm]; split <;> omega) | (simp only [placeOf, if_neg hm]; done) | (simp only [placeOf, if_pos hm]; omega)), rfl⟩, hs73⟩
  ·
   have h71p := of_decide_eq_false h71
   refine W.skip ?_
   refine hK62 _ _ ?_
   refine W.exit (exit_block (by decide) (exit_seq (exit_seq (exit_here ?_))))
   refine hK6 _ _ ?_
   refine W.sr fun K74 hK74 => ?_
   refine zE 1 (hK74 _ _ ?_)
   refine W.ret ?_
   have hs75 := St.tk0 hs70
   refine ret_of (.int .i64 (-1)) (by kernel_rfl) ⟨_, ⟨congrArg (Value.int .i64) (by first | contradiction | (simp only [placeOf, if_pos hm]; split <;> omega) | (simp only [placeOf, if_neg hm]; done) | (simp only [placeOf, if_pos hm]; omega)), rfl⟩, hs75⟩
 ·
  have h67p := of_decide_eq_false h67
  refine zS 28 h67 ?_
  refine zS 27 h67 ?_
  refine zE 6 (hK63 _ _ ?_)
  refine W.cond_false false (by kernel_rfl) rfl ?_
  refine W.skip ?_
  refine hK62 _ _ ?_
  refine W.exit (exit_block (by decide) (exit_seq (exit_seq (exit_here ?_))))
  refine hK6 _ _ ?_
  refine W.sr fun K76 hK76 => ?_
  refine zE 1 (hK76 _ _ ?_)
  refine W.ret ?_
  have hs77 := St.tk0 hs66
  refine ret_of (.int .i64 (-1)) (by kernel_rfl) ⟨_, ⟨congrArg (Value.int .i64) (by first | contradiction | (simp only [placeOf, if_pos hm]; split <;> omega) | (simp only [placeOf, if_neg hm]; done) | (simp only [placeOf, if_pos hm]; omega)), rfl⟩, hs77⟩

theorem place6_spec {gw gi gb n_ : Int} (B : Nat) (w : World) : Spec Tryz.prog 91 #[(.agg #[(.int .i64 gw), (.int .i64 gi), (.int .i64 gb)]), (.int .u8 6), (.int .i64 n_)] B w [] (fun v H' => v = .int .i64 (placeOf 6 gw gi gb n_) ∧ H' = []) := by
 by_cases hm : May gw gi gb
 · exact place6_may B w hm
 · exact place6_not B w hm

theorem place7_may {gw gi gb n_ : Int} (B : Nat) (w : World) (hm : May gw gi gb) : Spec Tryz.prog 91 #[(.agg #[(.int .i64 gw), (.int .i64 gi), (.int .i64 gb)]), (.int .u8 7), (.int .i64 n_)] B w [] (fun v H' => v = .int .i64 (placeOf 7 gw gi gb n_) ∧ H' = []) := by
 refine spec_Q Tryz.func91 rfl fun hs => ?_
 have hm_ : (1 ≤ gw ∧ gw ≤ 4) ∧ (2 ≤ gi ∧ gi ≤ 64) ∧ (2 ≤ gb ∧ gb ≤ 512) := hm
 refine W.sr fun K1 hK1 => ?_
 refine zN [(.int .i64 gw), (.int .i64 gi), (.int .i64 gb)] 31 hs fun b4 w2 hs3 => ?_
 refine zE 1 (hK1 _ _ ?_)
 refine W.sr fun K5 hK5 => ?_
 refine zE 1 (hK5 _ _ ?_)
 refine W.seq fun K6 hK6 => ?_
 refine W.sr fun K7 hK7 => ?_
 refine ops_R (runs_loadAgg (ad := ⟨b4, 0, none⟩) (cs := [(.int .i64 gw), (.int .i64 gi), (.int .i64 gb)]) (by kernel_rfl) (cells_sub (hs3.heapAt 0 rfl) rfl)) ?_
 refine zC00 hs3 (rows_spec (gw := gw) (gi := gi) (gb := gb) B _) fun w8 hs10 => ?_
 refine zE 1 (hK7 _ _ ?_)
 refine W.block ?_
 refine W.loop_start ?_
 refine loopAt_round ?_
 refine W.sr fun K11 hK11 => ?_
 refine zE 1 (hK11 _ _ ?_)
 refine W.seq fun K12 hK12 => ?_
 refine W.cond_true true (by kernel_rfl) rfl ?_
 refine W.skip ?_
 refine hK12 _ _ ?_
 refine W.seq fun K13 hK13 => ?_
 refine W.block ?_
 refine W.sr fun K14 hK14 => ?_
 refine zR 1 ?_
 refine zN [(.int .u8 0), (.int .i64 0), (.int .i64 0)] 142 hs10 fun b17 w15 hs16 => ?_
 refine ops_store (off := 0) (cs := [(.int .u8 0), (.int .i64 0), (.int .i64 0)]) (vs := [(.int .u8 1), (.int .i64 8), (.int .i64 1)]) hs16 (by kernel_rfl) (by simp) rfl (fun w18 hs19 => ?_)
 have hs20 : St B w [] w18 [blk b17 (.cells [(.int .u8 1), (.int .i64 8), (.int .i64 1)].toArray 142 (0, 0)), blk b4 (.cells [(.int .i64 gw), (.int .i64 gi), (.int .i64 gb)].toArray 31 (0, 0))] := hs19
 refine zD (hK14 _ _ ?_)
 refine W.seq fun K21 hK21 => ?_
 refine W.sr fun K22 hK22 => ?_
 refine zR 1 ?_
 refine zL ⟨b17, 0, none⟩ (.int .u8 1) (hs20.cellAt 0 rfl rfl) ?_
 refine zE 2 (hK22 _ _ ?_)
 refine W.cond_true true (by kernel_rfl) rfl ?_
 refine W.sr fun K23 hK23 => ?_
 refine zR 2 ?_
 refine zL ⟨b17, 1, none⟩ (.int .i64 8) (hs20.cellAt 0 rfl rfl) ?_
 refine zR 1 ?_
 refine zL ⟨b17, 2, none⟩ (.int .i64 1) (hs20.cellAt 0 rfl rfl) ?_
 refine zE 3 (hK23 _ _ ?_)
 refine W.exit (exit_seq (exit_here ?_))
 refine hK13 _ _ ?_
 refine W.region ?_
 refine zE 2 ?_
 refine loopAt_next ?_
 refine loopAt_round ?_
 refine W.sr fun K24 hK24 => ?_
 refine zE 1 (hK24 _ _ ?_)
 refine W.seq fun K25 hK25 => ?_
 refine W.cond_true true (by kernel_rfl) rfl ?_
 refine W.skip ?_
 refine hK25 _ _ ?_
 refine W.seq fun K26 hK26 => ?_
 refine W.block ?_
 refine W.sr fun K27 hK27 => ?_
 refine zR 1 ?_
 refine zN [(.int .u8 0), (.int .i64 0), (.int .i64 0)] 142 hs20 fun b30 w28 hs29 => ?_
 refine ops_store (off := 0) (cs := [(.int .u8 0), (.int .i64 0), (.int .i64 0)]) (vs := [(.int .u8 2), (.int .i64 64), (.int .i64 4)]) hs29 (by kernel_rfl) (by simp) rfl (fun w31 hs32 => ?_)
 have hs33 : St B w [] w31 [blk b30 (.cells [(.int .u8 2), (.int .i64 64), (.int .i64 4)].toArray 142 (0, 0)), blk b17 (.cells [(.int .u8 1), (.int .i64 8), (.int .i64 1)].toArray 142 (0, 0)), blk b4 (.cells [(.int .i64 gw), (.int .i64 gi), (.int .i64 gb)].toArray 31 (0, 0))] := hs32
 refine zD (hK27 _ _ ?_)
 refine W.seq fun K34 hK34 => ?_
 refine W.sr fun K35 hK35 => ?_
 refine zR 1 ?_
 refine zL ⟨b30, 0, none⟩ (.int .u8 2) (hs33.cellAt 0 rfl rfl) ?_
 refine zE 2 (hK35 _ _ ?_)
 refine W.cond_true true (by kernel_rfl) rfl ?_
 refine W.sr fun K36 hK36 => ?_
 refine zR 2 ?_
 refine zL ⟨b30, 1, none⟩ (.int .i64 64) (hs33.cellAt 0 rfl rfl) ?_
 refine zR 1 ?_
 refine zL ⟨b30, 2, none⟩ (.int .i64 4) (hs33.cellAt 0 rfl rfl) ?_
 refine zE 3 (hK36 _ _ ?_)
 refine W.exit (exit_seq (exit_here ?_))
 refine hK26 _ _ ?_
 refine W.region ?_
 refine zE 2 ?_
 refine loopAt_next ?_
 refine loopAt_round ?_
 refine W.sr fun K37 hK37 => ?_
 refine zE 1 (hK37 _ _ ?_)
 refine W.seq fun K38 hK38 => ?_
 refine W.cond_true true (by kernel_rfl) rfl ?_
 refine W.skip ?_
 refine hK38 _ _ ?_
 refine W.seq fun K39 hK39 => ?_
 refine W.block ?_
 refine W.sr fun K40 hK40 => ?_
 refine zR 1 ?_
 refine zN [(.int .u8 0), (.int .i64 0), (.int .i64 0)] 142 hs33 fun b43 w41 hs42 => ?_
 refine ops_store (off := 0) (cs := [(.int .u8 0), (.int .i64 0), (.int .i64 0)]) (vs := [(.int .u8 5), (.int .i64 208), (.int .i64 gw)]) hs42 (by kernel_rfl) (by simp) rfl (fun w44 hs45 => ?_)
 have hs46 : St B w [] w44 [blk b43 (.cells [(.int .u8 5), (.int .i64 208), (.int .i64 gw)].toArray 142 (0, 0)), blk b30 (.cells [(.int .u8 2), (.int .i64 64), (.int .i64 4)].toArray 142 (0, 0)), blk b17 (.cells [(.int .u8 1), (.int .i64 8), (.int .i64 1)].toArray 142 (0, 0)), blk b4 (.cells [(.int .i64 gw), (.int .i64 gi), (.int .i64 gb)].toArray 31 (0, 0))] := hs45
 refine zD (hK40 _ _ ?_)
 refine W.seq fun K47 hK47 => ?_
 refine W.sr fun K48 hK48 => ?_
 refine zR 1 ?_
 refine zL ⟨b43, 0, none⟩ (.int .u8 5) (hs46.cellAt 0 rfl rfl) ?_
 refine zE 2 (hK48 _ _ ?_)
 refine W.cond_true true (by kernel_rfl) rfl ?_
 refine W.sr fun K49 hK49 => ?_
 refine zR 2 ?_
 refine zL ⟨b43, 1, none⟩ (.int .i64 208) (hs46.cellAt 0 rfl rfl) ?_
 refine zR 1 ?_
 refine zL ⟨b43, 2, none⟩ (.int .i64 gw) (hs46.cellAt 0 rfl rfl) ?_
 refine zI (208 * gw) (wrap_i64 (by omega) (by omega)) ?_
 refine zI (264 + (208 * gw)) (wrap_i64 (by omega) (by omega)) ?_
 refine zE 1 (hK49 _ _ ?_)
 refine W.exit (exit_seq (exit_here ?_))
 refine hK39 _ _ ?_
 refine W.region ?_
 refine zE 2 ?_
 refine loopAt_next ?_
 refine loopAt_round ?_
 refine W.sr fun K50 hK50 => ?_
 refine zE 1 (hK50 _ _ ?_)
 refine W.seq fun K51 hK51 => ?_
 refine W.cond_true true (by kernel_rfl) rfl ?_
 refine W.skip ?_
 refine hK51 _ _ ?_
 refine W.seq fun K52 hK52 => ?_
 refine W.block ?_
 refine W.sr fun K53 hK53 => ?_
 refine zR 1 ?_
 refine zN [(.int .u8 0), (.int .i64 0), (.int .i64 0)] 142 hs46 fun b56 w54 hs55 => ?_
 refine ops_store (off := 0) (cs := [(.int .u8 0), (.int .i64 0), (.int .i64 0)]) (vs := [(.int .u8 6), (.int .i64 8), (.int .i64 1)]) hs55 (by kernel_rfl) (by simp) rfl (fun w57 hs58 => ?_)
 have hs59 : St B w [] w57 [blk b56 (.cells [(.int .u8 6), (.int .i64 8), (.int .i64 1)].toArray 142 (0, 0)), blk b43 (.cells [(.int .u8 5), (.int .i64 208), (.int .i64 gw)].toArray 142 (0, 0)), blk b30 (.cells [(.int .u8 2), (.int .i64 64), (.int .i64 4)].toArray 142 (0, 0)), blk b17 (.cells [(.int .u8 1), (.int .i64 8), (.int .i64 1)].toArray 142 (0, 0)), blk b4 (.cells [(.int .i64 gw), (.int .i64 gi), (.int .i64 gb)].toArray 31 (0, 0))] := hs58
 refine zD (hK53 _ _ ?_)
 refine W.seq fun K60 hK60 => ?_
 refine W.sr fun K61 hK61 => ?_
 refine zR 1 ?_
 refine zL ⟨b56, 0, none⟩ (.int .u8 6) (hs59.cellAt 0 rfl rfl) ?_
 refine zE 2 (hK61 _ _ ?_)
 refine W.cond_true true (by kernel_rfl) rfl ?_
 refine W.sr fun K62 hK62 => ?_
 refine zR 2 ?_
 refine zL ⟨b56, 1, none⟩ (.int .i64 8) (hs59.cellAt 0 rfl rfl) ?_
 refine zR 1 ?_
 refine zL ⟨b56, 2, none⟩ (.int .i64 1) (hs59.cellAt 0 rfl rfl) ?_
 refine zR 1 ?_
 refine zI ((264 + (208 * gw)) + 8) (wrap_i64 (by omega) (by omega)) ?_
 refine zE 1 (hK62 _ _ ?_)
 refine W.exit (exit_seq (exit_here ?_))
 refine hK52 _ _ ?_
 refine W.region ?_
 refine zE 2 ?_
 refine loopAt_next ?_
 refine loopAt_round ?_
 refine W.sr fun K63 hK63 => ?_
 refine zE 1 (hK63 _ _ ?_)
 refine W.seq fun K64 hK64 => ?_
 refine W.cond_true true (by kernel_rfl) rfl ?_
 refine W.skip ?_
 refine hK64 _ _ ?_
 refine W.seq fun K65 hK65 => ?_
 refine W.block ?_
 refine W.sr fun K66 hK66 => ?_
 refine zR 1 ?_
 refine zN [(.int .u8 0), (.int .i64 0), (.int .i64 0)] 142 hs59 fun b69 w67 hs68 => ?_
 refine ops_store (off := 0) (cs := [(.int .u8 0), (.int .i64 0), (.int .i64 0)]) (vs := [(.int .u8 7), (.int .i64 8), (.int .i64 1)]) hs68 (by kernel_rfl) (by simp) rfl (fun w70 hs71 => ?_)
 have hs72 : St B w [] w70 [blk b69 (.cells [(.int .u8 7), (.int .i64 8), (.int .i64 1)].toArray 142 (0, 0)), blk b56 (.cells [(.int .u8 6), (.int .i64 8), (.int .i64 1)].toArray 142 (0, 0)), blk b43 (.cells [(.int .u8 5), (.int .i64 208), (.int .i64 gw)].toArray 142 (0, 0)), blk b30 (.cells [(.int .u8 2), (.int .i64 64), (.int .i64 4)].toArray 142 (0, 0)), blk b17 (.cells [(.int .u8 1), (.int .i64 8), (.int .i64 1)].toArray 142 (0, 0)), blk b4 (.cells [(.int .i64 gw), (.int .i64 gi), (.int .i64 gb)].toArray 31 (0, 0))] := hs71
 refine zD (hK66 _ _ ?_)
 refine W.seq fun K73 hK73 => ?_
 refine W.sr fun K74 hK74 => ?_
 refine zR 1 ?_
 refine zL ⟨b69, 0, none⟩ (.int .u8 7) (hs72.cellAt 0 rfl rfl) ?_
 refine zE 2 (hK74 _ _ ?_)
 refine W.cond_false false (by kernel_rfl) rfl ?_
 refine W.skip ?_
 refine hK73 _ _ ?_
 refine W.seq fun K75 hK75 => ?_
 refine W.sr fun K76 hK76 => ?_
 refine ops_R (runs_loadAgg (ad := ⟨b4, 0, none⟩) (cs := [(.int .i64 gw), (.int .i64 gi), (.int .i64 gb)]) (by kernel_rfl) (cells_sub (hs72.heapAt 5 rfl) rfl)) ?_
 refine zC00 hs72 (may_spec (gw := gw) (gi := gi) (gb := gb) B _) fun w77 hs79 => ?_
 refine zR 1 ?_
 rcases Bool.eq_false_or_eq_true (decide (May gw gi gb)) with h80 | h80
 ·
  have h80p := of_decide_eq_true h80
  refine zS 28 h80 ?_
  refine zS 27 h80 ?_
  refine zR 2 ?_
  refine zL ⟨b69, 2, none⟩ (.int .i64 1) (hs79.cellAt 0 rfl rfl) ?_
  refine zR 1 ?_
  refine zC00 hs79 (within_spec (n_ := n_) (f_ := 0) (t_ := 0) B _) fun w81 hs83 => ?_
  refine zE 1 (hK76 _ _ ?_)
  refine W.cond (decide (0 ≤ n_ ∧ n_ ≤ 0)) (by kernel_rfl) (fun h84 => ?_) (fun h84 => ?_)
  ·
   have h84p := of_decide_eq_true h84
   refine W.sr fun K85 hK85 => ?_
   refine zR 2 ?_
   refine zL ⟨b69, 1, none⟩ (.int .i64 8) (hs83.cellAt 0 rfl rfl) ?_
   refine zR 1 ?_
   refine zI (8 * n_) (wrap_i64 (by omega) (by omega)) ?_
   refine zI (((264 + (208 * gw)) + 8) + (8 * n_)) (wrap_i64 (by omega) (by omega)) ?_
   refine zE 1 (hK85 _ _ ?_)
   refine W.ret (ret_seq (ret_block (ret_seq (ret_seq (ret_block (ret_seq ?_))))))
   have hs86 := St.tk0 hs83
   refine ret_of (.int .i64 (((264 + (208 * gw)) + 8) + (8 * n_))) (by kernel_rfl) ⟨_, ⟨congrArg (Value.int .i64) (by first | contradiction | (simp only [placeOf, if_pos hm]; split <;> omega) | (simp only [placeOf, if_neg hm]; done) | (simp only [placeOf, if_pos hm]; omega)), rfl⟩, hs86⟩
  ·
   have h84p := of_decide_eq_false h84
   refine W.skip ?_
   refine hK75 _ _ ?_
   refine W.exit (exit_block (by decide) (exit_seq (exit_seq (exit_here ?_))))
   refine hK6 _ _ ?_
   refine W.sr fun K87 hK87 => ?_
   refine zE 1 (hK87 _ _ ?_)
   refine W.ret ?_
   have hs88 := St.tk0 hs83
   refine ret_of (.int .i64 (-1)) (by kernel_rfl) ⟨_, ⟨congrArg (Value.int .i64) (by first | contradiction | (simp only [placeOf, if_pos hm]; split <;> omega) | (simp only [placeOf, if_neg hm]; done) | (simp only [placeOf, if_pos hm]; omega)), rfl⟩, hs88⟩
 ·
  have h80p := of_decide_eq_false h80
  refine zS 28 h80 ?_
  refine zS 27 h80 ?_
  refine zE 6 (hK76 _ _ ?_)
  refine W.cond_false false (by kernel_rfl) rfl ?_
  refine W.skip ?_
  refine hK75 _ _ ?_
  refine W.exit (exit_block (by decide) (exit_seq (exit_seq (exit_here ?_))))
  refine hK6 _ _ ?_
  refine W.sr fun K89 hK89 => ?_
  refine zE 1 (hK89 _ _ ?_)
  refine W.ret ?_
  have hs90 := St.tk0 hs79
  refine ret_of (.int .i64 (-1)) (by kernel_rfl) ⟨_, ⟨congrArg (Value.int .i64) (by first | contradiction | (simp only [placeOf, if_pos hm]; split <;> omega) | (simp only [placeOf, if_neg hm]; done) | (simp only [placeOf, if_pos hm]; omega)), rfl⟩, hs90⟩

theorem place7_not {gw gi gb n_ : Int} (B : Nat) (w : World) (hm : ¬ May gw gi gb) : Spec Tryz.prog 91 #[(.agg #[(.int .i64 gw), (.int .i64 gi), (.int .i64 gb)]), (.int .u8 7), (.int .i64 n_)] B w [] (fun v H' => v = .int .i64 (placeOf 7 gw gi gb n_) ∧ H' = []) := by
 refine spec_Q Tryz.func91 rfl fun hs => ?_
 refine W.sr fun K1 hK1 => ?_
 refine zN [(.int .i64 gw), (.int .i64 gi), (.int .i64 gb)] 31 hs fun b4 w2 hs3 => ?_
 refine zE 1 (hK1 _ _ ?_)
 refine W.sr fun K5 hK5 => ?_
 refine zE 1 (hK5 _ _ ?_)
 refine W.seq fun K6 hK6 => ?_
 refine W.sr fun K7 hK7 => ?_
 refine ops_R (runs_loadAgg (ad := ⟨b4, 0, none⟩) (cs := [(.int .i64 gw), (.int .i64 gi), (.int .i64 gb)]) (by kernel_rfl) (cells_sub (hs3.heapAt 0 rfl) rfl)) ?_
 refine zC00 hs3 (rows_spec (gw := gw) (gi := gi) (gb := gb) B _) fun w8 hs10 => ?_
 refine zE 1 (hK7 _ _ ?_)
 refine W.block ?_
 refine W.loop_start ?_
 refine loopAt_round ?_
 refine W.sr fun K11 hK11 => ?_
 refine zE 1 (hK11 _ _ ?_)
 refine W.seq fun K12 hK12 => ?_
 refine W.cond_true true (by kernel_rfl) rfl ?_
 refine W.skip ?_
 refine hK12 _ _ ?_
 refine W.seq fun K13 hK13 => ?_
 refine W.block ?_
 refine W.sr fun K14 hK14 => ?_
 refine zR 1 ?_
 refine zN [(.int .u8 0), (.int .i64 0), (.int .i64 0)] 142 hs10 fun b17 w15 hs16 => ?_
 refine ops_store (off := 0) (cs := [(.int .u8 0), (.int .i64 0), (.int .i64 0)]) (vs := [(.int .u8 1), (.int .i64 8), (.int .i64 1)]) hs16 (by kernel_rfl) (by simp) rfl (fun w18 hs19 => ?_)
 have hs20 : St B w [] w18 [blk b17 (.cells [(.int .u8 1), (.int .i64 8), (.int .i64 1)].toArray 142 (0, 0)), blk b4 (.cells [(.int .i64 gw), (.int .i64 gi), (.int .i64 gb)].toArray 31 (0, 0))] := hs19
 refine zD (hK14 _ _ ?_)
 refine W.seq fun K21 hK21 => ?_
 refine W.sr fun K22 hK22 => ?_
 refine zR 1 ?_
 refine zL ⟨b17, 0, none⟩ (.int .u8 1) (hs20.cellAt 0 rfl rfl) ?_
 refine zE 2 (hK22 _ _ ?_)
 refine W.cond_true true (by kernel_rfl) rfl ?_
 refine W.sr fun K23 hK23 => ?_
 refine zR 2 ?_
 refine zL ⟨b17, 1, none⟩ (.int .i64 8) (hs20.cellAt 0 rfl rfl) ?_
 refine zR 1 ?_
 refine zL ⟨b17, 2, none⟩ (.int .i64 1) (hs20.cellAt 0 rfl rfl) ?_
 refine zE 3 (hK23 _ _ ?_)
 refine W.exit (exit_seq (exit_here ?_))
 refine hK13 _ _ ?_
 refine W.region ?_
 refine zE 2 ?_
 refine loopAt_next ?_
 refine loopAt_round ?_
 refine W.sr fun K24 hK24 => ?_
 refine zE 1 (hK24 _ _ ?_)
 refine W.seq fun K25 hK25 => ?_
 refine W.cond_true true (by kernel_rfl) rfl ?_
 refine W.skip ?_
 refine hK25 _ _ ?_
 refine W.seq fun K26 hK26 => ?_
 refine W.block ?_
 refine W.sr fun K27 hK27 => ?_
 refine zR 1 ?_
 refine zN [(.int .u8 0), (.int .i64 0), (.int .i64 0)] 142 hs20 fun b30 w28 hs29 => ?_
 refine ops_store (off := 0) (cs := [(.int .u8 0), (.int .i64 0), (.int .i64 0)]) (vs := [(.int .u8 2), (.int .i64 64), (.int .i64 4)]) hs29 (by kernel_rfl) (by simp) rfl (fun w31 hs32 => ?_)
 have hs33 : St B w [] w31 [blk b30 (.cells [(.int .u8 2), (.int .i64 64), (.int .i64 4)].toArray 142 (0, 0)), blk b17 (.cells [(.int .u8 1), (.int .i64 8), (.int .i64 1)].toArray 142 (0, 0)), blk b4 (.cells [(.int .i64 gw), (.int .i64 gi), (.int .i64 gb)].toArray 31 (0, 0))] := hs32
 refine zD (hK27 _ _ ?_)
 refine W.seq fun K34 hK34 => ?_
 refine W.sr fun K35 hK35 => ?_
 refine zR 1 ?_
 refine zL ⟨b30, 0, none⟩ (.int .u8 2) (hs33.cellAt 0 rfl rfl) ?_
 refine zE 2 (hK35 _ _ ?_)
 refine W.cond_true true (by kernel_rfl) rfl ?_
 refine W.sr fun K36 hK36 => ?_
 refine zR 2 ?_
 refine zL ⟨b30, 1, none⟩ (.int .i64 64) (hs33.cellAt 0 rfl rfl) ?_
 refine zR 1 ?_
 refine zL ⟨b30, 2, none⟩ (.int .i64 4) (hs33.cellAt 0 rfl rfl) ?_
 refine zE 3 (hK36 _ _ ?_)
 refine W.exit (exit_seq (exit_here ?_))
 refine hK26 _ _ ?_
 refine W.region ?_
 refine zE 2 ?_
 refine loopAt_next ?_
 refine loopAt_round ?_
 refine W.sr fun K37 hK37 => ?_
 refine zE 1 (hK37 _ _ ?_)
 refine W.seq fun K38 hK38 => ?_
 refine W.cond_true true (by kernel_rfl) rfl ?_
 refine W.skip ?_
 refine hK38 _ _ ?_
 refine W.seq fun K39 hK39 => ?_
 refine W.block ?_
 refine W.sr fun K40 hK40 => ?_
 refine zR 1 ?_
 refine zN [(.int .u8 0), (.int .i64 0), (.int .i64 0)] 142 hs33 fun b43 w41 hs42 => ?_
 refine ops_store (off := 0) (cs := [(.int .u8 0), (.int .i64 0), (.int .i64 0)]) (vs := [(.int .u8 5), (.int .i64 208), (.int .i64 gw)]) hs42 (by kernel_rfl) (by simp) rfl (fun w44 hs45 => ?_)
 have hs46 : St B w [] w44 [blk b43 (.cells [(.int .u8 5), (.int .i64 208), (.int .i64 gw)].toArray 142 (0, 0)), blk b30 (.cells [(.int .u8 2), (.int .i64 64), (.int .i64 4)].toArray 142 (0, 0)), blk b17 (.cells [(.int .u8 1), (.int .i64 8), (.int .i64 1)].toArray 142 (0, 0)), blk b4 (.cells [(.int .i64 gw), (.int .i64 gi), (.int .i64 gb)].toArray 31 (0, 0))] := hs45
 refine zD (hK40 _ _ ?_)
 refine W.seq fun K47 hK47 => ?_
 refine W.sr fun K48 hK48 => ?_
 refine zR 1 ?_
 refine zL ⟨b43, 0, none⟩ (.int .u8 5) (hs46.cellAt 0 rfl rfl) ?_
 refine zE 2 (hK48 _ _ ?_)
 refine W.cond_true true (by kernel_rfl) rfl ?_
 refine W.sr fun K49 hK49 => ?_
 refine zR 2 ?_
 refine zL ⟨b43, 1, none⟩ (.int .i64 208) (hs46.cellAt 0 rfl rfl) ?_
 refine zR 1 ?_
 refine zL ⟨b43, 2, none⟩ (.int .i64 gw) (hs46.cellAt 0 rfl rfl) ?_
 refine ops_val (v := .int .i64 (IntKind.i64.wrap (208 * gw))) (v' := .int .i64 (IntKind.i64.wrap (208 * gw))) (by kernel_rfl) rfl ?_
 refine ops_val (v := .int .i64 (IntKind.i64.wrap (264 + (IntKind.i64.wrap (208 * gw))))) (v' := .int .i64 (IntKind.i64.wrap (264 + (IntKind.i64.wrap (208 * gw))))) (by kernel_rfl) rfl ?_
 refine zE 1 (hK49 _ _ ?_)
 refine W.exit (exit_seq (exit_here ?_))
 refine hK39 _ _ ?_
 refine W.region ?_
 refine zE 2 ?_
 refine loopAt_next ?_
 refine loopAt_round ?_
 refine W.sr fun K50 hK50 => ?_
 refine zE 1 (hK50 _ _ ?_)
 refine W.seq fun K51 hK51 => ?_
 refine W.cond_true true (by kernel_rfl) rfl ?_
 refine W.skip ?_
 refine hK51 _ _ ?_
 refine W.seq fun K52 hK52 => ?_
 refine W.block ?_
 refine W.sr fun K53 hK53 => ?_
 refine zR 1 ?_
 refine zN [(.int .u8 0), (.int .i64 0), (.int .i64 0)] 142 hs46 fun b56 w54 hs55 => ?_
 refine ops_store (off := 0) (cs := [(.int .u8 0), (.int .i64 0), (.int .i64 0)]) (vs := [(.int .u8 6), (.int .i64 8), (.int .i64 1)]) hs55 (by kernel_rfl) (by simp) rfl (fun w57 hs58 => ?_)
 have hs59 : St B w [] w57 [blk b56 (.cells [(.int .u8 6), (.int .i64 8), (.int .i64 1)].toArray 142 (0, 0)), blk b43 (.cells [(.int .u8 5), (.int .i64 208), (.int .i64 gw)].toArray 142 (0, 0)), blk b30 (.cells [(.int .u8 2), (.int .i64 64), (.int .i64 4)].toArray 142 (0, 0)), blk b17 (.cells [(.int .u8 1), (.int .i64 8), (.int .i64 1)].toArray 142 (0, 0)), blk b4 (.cells [(.int .i64 gw), (.int .i64 gi), (.int .i64 gb)].toArray 31 (0, 0))] := hs58
 refine zD (hK53 _ _ ?_)
 refine W.seq fun K60 hK60 => ?_
 refine W.sr fun K61 hK61 => ?_
 refine zR 1 ?_
 refine zL ⟨b56, 0, none⟩ (.int .u8 6) (hs59.cellAt 0 rfl rfl) ?_
 refine zE 2 (hK61 _ _ ?_)
 refine W.cond_true true (by kernel_rfl) rfl ?_
 refine W.sr fun K62 hK62 => ?_
 refine zR 2 ?_
 refine zL ⟨b56, 1, none⟩ (.int .i64 8) (hs59.cellAt 0 rfl rfl) ?_
 refine zR 1 ?_
 refine zL ⟨b56, 2, none⟩ (.int .i64 1) (hs59.cellAt 0 rfl rfl) ?_
 refine zR 1 ?_
 refine ops_val (v := .int .i64 (IntKind.i64.wrap ((IntKind.i64.wrap (264 + (IntKind.i64.wrap (208 * gw)))) + 8))) (v' := .int .i64 (IntKind.i64.wrap ((IntKind.i64.wrap (264 + (IntKind.i64.wrap (208 * gw)))) + 8))) (by kernel_rfl) rfl ?_
 refine zE 1 (hK62 _ _ ?_)
 refine W.exit (exit_seq (exit_here ?_))
 refine hK52 _ _ ?_
 refine W.region ?_
 refine zE 2 ?_
 refine loopAt_next ?_
 refine loopAt_round ?_
 refine W.sr fun K63 hK63 => ?_
 refine zE 1 (hK63 _ _ ?_)
 refine W.seq fun K64 hK64 => ?_
 refine W.cond_true true (by kernel_rfl) rfl ?_
 refine W.skip ?_
 refine hK64 _ _ ?_
 refine W.seq fun K65 hK65 => ?_
 refine W.block ?_
 refine W.sr fun K66 hK66 => ?_
 refine zR 1 ?_
 refine zN [(.int .u8 0), (.int .i64 0), (.int .i64 0)] 142 hs59 fun b69 w67 hs68 => ?_
 refine ops_store (off := 0) (cs := [(.int .u8 0), (.int .i64 0), (.int .i64 0)]) (vs := [(.int .u8 7), (.int .i64 8), (.int .i64 1)]) hs68 (by kernel_rfl) (by simp) rfl (fun w70 hs71 => ?_)
 have hs72 : St B w [] w70 [blk b69 (.cells [(.int .u8 7), (.int .i64 8), (.int .i64 1)].toArray 142 (0, 0)), blk b56 (.cells [(.int .u8 6), (.int .i64 8), (.int .i64 1)].toArray 142 (0, 0)), blk b43 (.cells [(.int .u8 5), (.int .i64 208), (.int .i64 gw)].toArray 142 (0, 0)), blk b30 (.cells [(.int .u8 2), (.int .i64 64), (.int .i64 4)].toArray 142 (0, 0)), blk b17 (.cells [(.int .u8 1), (.int .i64 8), (.int .i64 1)].toArray 142 (0, 0)), blk b4 (.cells [(.int .i64 gw), (.int .i64 gi), (.int .i64 gb)].toArray 31 (0, 0))] := hs71
 refine zD (hK66 _ _ ?_)
 refine W.seq fun K73 hK73 => ?_
 refine W.sr fun K74 hK74 => ?_
 refine zR 1 ?_
 refine zL ⟨b69, 0, none⟩ (.int .u8 7) (hs72.cellAt 0 rfl rfl) ?_
 refine zE 2 (hK74 _ _ ?_)
 refine W.cond_false false (by kernel_rfl) rfl ?_
 refine W.skip ?_
 refine hK73 _ _ ?_
 refine W.seq fun K75 hK75 => ?_
 refine W.sr fun K76 hK76 => ?_
 refine ops_R (runs_loadAgg (ad := ⟨b4, 0, none⟩) (cs := [(.int .i64 gw), (.int .i64 gi), (.int .i64 gb)]) (by kernel_rfl) (cells_sub (hs72.heapAt 5 rfl) rfl)) ?_
 refine zC00 hs72 (may_spec (gw := gw) (gi := gi) (gb := gb) B _) fun w77 hs79 => ?_
 refine zR 1 ?_
 rcases Bool.eq_false_or_eq_true (decide (May gw gi gb)) with h80 | h80
 ·
  have h80p := of_decide_eq_true h80
  refine zS 28 h80 ?_
  refine zS 27 h80 ?_
  refine zR 2 ?_
  refine zL ⟨b69, 2, none⟩ (.int .i64 1) (hs79.cellAt 0 rfl rfl) ?_
  refine zR 1 ?_
  refine zC00 hs79 (within_spec (n_ := n_) (f_ := 0) (t_ := 0) B _) fun w81 hs83 => ?_
  refine zE 1 (hK76 _ _ ?_)
  refine W.cond (decide (0 ≤ n_ ∧ n_ ≤ 0)) (by kernel_rfl) (fun h84 => ?_) (fun h84 => ?_)
  ·
   have h84p := of_decide_eq_true h84
   refine W.sr fun K85 hK85 => ?_
   refine zR 2 ?_
   refine zL ⟨b69, 1, none⟩ (.int .i64 8) (hs83.cellAt 0 rfl rfl) ?_
   refine zR 1 ?_
   refine ops_val (v := .int .i64 (IntKind.i64.wrap (8 * n_))) (v' := .int .i64 (IntKind.i64.wrap (8 * n_))) (by kernel_rfl) rfl ?_
   refine ops_val (v := .int .i64 (IntKind.i64.wrap ((IntKind.i64.wrap ((IntKind.i64.wrap (264 + (IntKind.i64.wrap (208 * gw)))) + 8)) + (IntKind.i64.wrap (8 * n_))))) (v' := .int .i64 (IntKind.i64.wrap ((IntKind.i64.wrap ((IntKind.i64.wrap (264 + (IntKind.i64.wrap (208 * gw)))) + 8)) + (IntKind.i64.wrap (8 * n_))))) (by kernel_rfl) rfl ?_
   refine zE 1 (hK85 _ _ ?_)
   refine W.ret (ret_seq (ret_block (ret_seq (ret_seq (ret_block (ret_seq ?_))))))
   have hs86 := St.tk0 hs83
   refine ret_of (.int .i64 (IntKind.i64.wrap ((IntKind.i64.wrap ((IntKind.i64.wrap (264 + (IntKind.i64.wrap (208 * gw)))) + 8)) + (IntKind.i64.wrap (8 * n_))))) (by kernel_rfl) ⟨_, ⟨congrArg (Value.int .i64) (by first | contradiction | (simp only [placeOf, if_pos hm]; split <;> omega) | (simp only [placeOf, if_neg hm]; done) | (simp only [placeOf, if_pos hm]; omega)), rfl⟩, hs86⟩
  ·
   have h84p := of_decide_eq_false h84
   refine W.skip ?_
   refine hK75 _ _ ?_
   refine W.exit (exit_block (by decide) (exit_seq (exit_seq (exit_here ?_))))
   refine hK6 _ _ ?_
   refine W.sr fun K87 hK87 => ?_
   refine zE 1 (hK87 _ _ ?_)
   refine W.ret ?_
   have hs88 := St.tk0 hs83
   refine ret_of (.int .i64 (-1)) (by kernel_rfl) ⟨_, ⟨congrArg (Value.int .i64) (by first | contradiction | (simp only [placeOf, if_pos hm]; split <;> omega) | (simp only [placeOf, if_neg hm]; done) | (simp only [placeOf, if_pos hm]; omega)), rfl⟩, hs88⟩
 ·
  have h80p := of_decide_eq_false h80
  refine zS 28 h80 ?_
  refine zS 27 h80 ?_
  refine zE 6 (hK76 _ _ ?_)
  refine W.cond_false false (by kernel_rfl) rfl ?_
  refine W.skip ?_
  refine hK75 _ _ ?_
  refine W.exit (exit_block (by decide) (exit_seq (exit_seq (exit_here ?_))))
  refine hK6 _ _ ?_
  refine W.sr fun K89 hK89 => ?_
  refine zE 1 (hK89 _ _ ?_)
  refine W.ret ?_
  have hs90 := St.tk0 hs79
  refine ret_of (.int .i64 (-1)) (by kernel_rfl) ⟨_, ⟨congrArg (Value.int .i64) (by first | contradiction | (simp only [placeOf, if_pos hm]; split <;> omega) | (simp only [placeOf, if_neg hm]; done) | (simp only [placeOf, if_pos hm]; omega)), rfl⟩, hs90⟩

theorem place7_spec {gw gi gb n_ : Int} (B : Nat) (w : World) : Spec Tryz.prog 91 #[(.agg #[(.int .i64 gw), (.int .i64 gi), (.int .i64 gb)]), (.int .u8 7), (.int .i64 n_)] B w [] (fun v H' => v = .int .i64 (placeOf 7 gw gi gb n_) ∧ H' = []) := by
 by_cases hm : May gw gi gb
 · exact place7_may B w hm
 · exact place7_not B w hm

theorem place8_may {gw gi gb n_ : Int} (B : Nat) (w : World) (hm : May gw gi gb) : Spec Tryz.prog 91 #[(.agg #[(.int .i64 gw), (.int .i64 gi), (.int .i64 gb)]), (.int .u8 8), (.int .i64 n_)] B w [] (fun v H' => v = .int .i64 (placeOf 8 gw gi gb n_) ∧ H' = []) := by
 refine spec_Q Tryz.func91 rfl fun hs => ?_
 have hm_ : (1 ≤ gw ∧ gw ≤ 4) ∧ (2 ≤ gi ∧ gi ≤ 64) ∧ (2 ≤ gb ∧ gb ≤ 512) := hm
 refine W.sr fun K1 hK1 => ?_
 refine zN [(.int .i64 gw), (.int .i64 gi), (.int .i64 gb)] 31 hs fun b4 w2 hs3 => ?_
 refine zE 1 (hK1 _ _ ?_)
 refine W.sr fun K5 hK5 => ?_
 refine zE 1 (hK5 _ _ ?_)
 refine W.seq fun K6 hK6 => ?_
 refine W.sr fun K7 hK7 => ?_
 refine ops_R (runs_loadAgg (ad := ⟨b4, 0, none⟩) (cs := [(.int .i64 gw), (.int .i64 gi), (.int .i64 gb)]) (by kernel_rfl) (cells_sub (hs3.heapAt 0 rfl) rfl)) ?_
 refine zC00 hs3 (rows_spec (gw := gw) (gi := gi) (gb := gb) B _) fun w8 hs10 => ?_
 refine zE 1 (hK7 _ _ ?_)
 refine W.block ?_
 refine W.loop_start ?_
 refine loopAt_round ?_
 refine W.sr fun K11 hK11 => ?_
 refine zE 1 (hK11 _ _ ?_)
 refine W.seq fun K12 hK12 => ?_
 refine W.cond_true true (by kernel_rfl) rfl ?_
 refine W.skip ?_
 refine hK12 _ _ ?_
 refine W.seq fun K13 hK13 => ?_
 refine W.block ?_
 refine W.sr fun K14 hK14 => ?_
 refine zR 1 ?_
 refine zN [(.int .u8 0), (.int .i64 0), (.int .i64 0)] 142 hs10 fun b17 w15 hs16 => ?_
 refine ops_store (off := 0) (cs := [(.int .u8 0), (.int .i64 0), (.int .i64 0)]) (vs := [(.int .u8 1), (.int .i64 8), (.int .i64 1)]) hs16 (by kernel_rfl) (by simp) rfl (fun w18 hs19 => ?_)
 have hs20 : St B w [] w18 [blk b17 (.cells [(.int .u8 1), (.int .i64 8), (.int .i64 1)].toArray 142 (0, 0)), blk b4 (.cells [(.int .i64 gw), (.int .i64 gi), (.int .i64 gb)].toArray 31 (0, 0))] := hs19
 refine zD (hK14 _ _ ?_)
 refine W.seq fun K21 hK21 => ?_
 refine W.sr fun K22 hK22 => ?_
 refine zR 1 ?_
 refine zL ⟨b17, 0, none⟩ (.int .u8 1) (hs20.cellAt 0 rfl rfl) ?_
 refine zE 2 (hK22 _ _ ?_)
 refine W.cond_true true (by kernel_rfl) rfl ?_
 refine W.sr fun K23 hK23 => ?_
 refine zR 2 ?_
 refine zL ⟨b17, 1, none⟩ (.int .i64 8) (hs20.cellAt 0 rfl rfl) ?_
 refine zR 1 ?_
 refine zL ⟨b17, 2, none⟩ (.int .i64 1) (hs20.cellAt 0 rfl rfl) ?_
 refine zE 3 (hK23 _ _ ?_)
 refine W.exit (exit_seq (exit_here ?_))
 refine hK13 _ _ ?_
 refine W.region ?_
 refine zE 2 ?_
 refine loopAt_next ?_
 refine loopAt_round ?_
 refine W.sr fun K24 hK24 => ?_
 refine zE 1 (hK24 _ _ ?_)
 refine W.seq fun K25 hK25 => ?_
 refine W.cond_true true (by kernel_rfl) rfl ?_
 refine W.skip ?_
 refine hK25 _ _ ?_
 refine W.seq fun K26 hK26 => ?_
 refine W.block ?_
 refine W.sr fun K27 hK27 => ?_
 refine zR 1 ?_
 refine zN [(.int .u8 0), (.int .i64 0), (.int .i64 0)] 142 hs20 fun b30 w28 hs29 => ?_
 refine ops_store (off := 0) (cs := [(.int .u8 0), (.int .i64 0), (.int .i64 0)]) (vs := [(.int .u8 2), (.int .i64 64), (.int .i64 4)]) hs29 (by kernel_rfl) (by simp) rfl (fun w31 hs32 => ?_)
 have hs33 : St B w [] w31 [blk b30 (.cells [(.int .u8 2), (.int .i64 64), (.int .i64 4)].toArray 142 (0, 0)), blk b17 (.cells [(.int .u8 1), (.int .i64 8), (.int .i64 1)].toArray 142 (0, 0)), blk b4 (.cells [(.int .i64 gw), (.int .i64 gi), (.int .i64 gb)].toArray 31 (0, 0))] := hs32
 refine zD (hK27 _ _ ?_)
 refine W.seq fun K34 hK34 => ?_
 refine W.sr fun K35 hK35 => ?_
 refine zR 1 ?_
 refine zL ⟨b30, 0, none⟩ (.int .u8 2) (hs33.cellAt 0 rfl rfl) ?_
 refine zE 2 (hK35 _ _ ?_)
 refine W.cond_true true (by kernel_rfl) rfl ?_
 refine W.sr fun K36 hK36 => ?_
 refine zR 2 ?_
 refine zL ⟨b30, 1, none⟩ (.int .i64 64) (hs33.cellAt 0 rfl rfl) ?_
 refine zR 1 ?_
 refine zL ⟨b30, 2, none⟩ (.int .i64 4) (hs33.cellAt 0 rfl rfl) ?_
 refine zE 3 (hK36 _ _ ?_)
 refine W.exit (exit_seq (exit_here ?_))
 refine hK26 _ _ ?_
 refine W.region ?_
 refine zE 2 ?_
 refine loopAt_next ?_
 refine loopAt_round ?_
 refine W.sr fun K37 hK37 => ?_
 refine zE 1 (hK37 _ _ ?_)
 refine W.seq fun K38 hK38 => ?_
 refine W.cond_true true (by kernel_rfl) rfl ?_
 refine W.skip ?_
 refine hK38 _ _ ?_
 refine W.seq fun K39 hK39 => ?_
 refine W.block ?_
 refine W.sr fun K40 hK40 => ?_
 refine zR 1 ?_
 refine zN [(.int .u8 0), (.int .i64 0), (.int .i64 0)] 142 hs33 fun b43 w41 hs42 => ?_
 refine ops_store (off := 0) (cs := [(.int .u8 0), (.int .i64 0), (.int .i64 0)]) (vs := [(.int .u8 5), (.int .i64 208), (.int .i64 gw)]) hs42 (by kernel_rfl) (by simp) rfl (fun w44 hs45 => ?_)
 have hs46 : St B w [] w44 [blk b43 (.cells [(.int .u8 5), (.int .i64 208), (.int .i64 gw)].toArray 142 (0, 0)), blk b30 (.cells [(.int .u8 2), (.int .i64 64), (.int .i64 4)].toArray 142 (0, 0)), blk b17 (.cells [(.int .u8 1), (.int .i64 8), (.int .i64 1)].toArray 142 (0, 0)), blk b4 (.cells [(.int .i64 gw), (.int .i64 gi), (.int .i64 gb)].toArray 31 (0, 0))] := hs45
 refine zD (hK40 _ _ ?_)
 refine W.seq fun K47 hK47 => ?_
 refine W.sr fun K48 hK48 => ?_
 refine zR 1 ?_
 refine zL ⟨b43, 0, none⟩ (.int .u8 5) (hs46.cellAt 0 rfl rfl) ?_
 refine zE 2 (hK48 _ _ ?_)
 refine W.cond_true true (by kernel_rfl) rfl ?_
 refine W.sr fun K49 hK49 => ?_
 refine zR 2 ?_
 refine zL ⟨b43, 1, none⟩ (.int .i64 208) (hs46.cellAt 0 rfl rfl) ?_
 refine zR 1 ?_
 refine zL ⟨b43, 2, none⟩ (.int .i64 gw) (hs46.cellAt 0 rfl rfl) ?_
 refine zI (208 * gw) (wrap_i64 (by omega) (by omega)) ?_
 refine zI (264 + (208 * gw)) (wrap_i64 (by omega) (by omega)) ?_
 refine zE 1 (hK49 _ _ ?_)
 refine W.exit (exit_seq (exit_here ?_))
 refine hK39 _ _ ?_
 refine W.region ?_
 refine zE 2 ?_
 refine loopAt_next ?_
 refine loopAt_round ?_
 refine W.sr fun K50 hK50 => ?_
 refine zE 1 (hK50 _ _ ?_)
 refine W.seq fun K51 hK51 => ?_
 refine W.cond_true true (by kernel_rfl) rfl ?_
 refine W.skip ?_
 refine hK51 _ _ ?_
 refine W.seq fun K52 hK52 => ?_
 refine W.block ?_
 refine W.sr fun K53 hK53 => ?_
 refine zR 1 ?_
 refine zN [(.int .u8 0), (.int .i64 0), (.int .i64 0)] 142 hs46 fun b56 w54 hs55 => ?_
 refine ops_store (off := 0) (cs := [(.int .u8 0), (.int .i64 0), (.int .i64 0)]) (vs := [(.int .u8 6), (.int .i64 8), (.int .i64 1)]) hs55 (by kernel_rfl) (by simp) rfl (fun w57 hs58 => ?_)
 have hs59 : St B w [] w57 [blk b56 (.cells [(.int .u8 6), (.int .i64 8), (.int .i64 1)].toArray 142 (0, 0)), blk b43 (.cells [(.int .u8 5), (.int .i64 208), (.int .i64 gw)].toArray 142 (0, 0)), blk b30 (.cells [(.int .u8 2), (.int .i64 64), (.int .i64 4)].toArray 142 (0, 0)), blk b17 (.cells [(.int .u8 1), (.int .i64 8), (.int .i64 1)].toArray 142 (0, 0)), blk b4 (.cells [(.int .i64 gw), (.int .i64 gi), (.int .i64 gb)].toArray 31 (0, 0))] := hs58
 refine zD (hK53 _ _ ?_)
 refine W.seq fun K60 hK60 => ?_
 refine W.sr fun K61 hK61 => ?_
 refine zR 1 ?_
 refine zL ⟨b56, 0, none⟩ (.int .u8 6) (hs59.cellAt 0 rfl rfl) ?_
 refine zE 2 (hK61 _ _ ?_)
 refine W.cond_true true (by kernel_rfl) rfl ?_
 refine W.sr fun K62 hK62 => ?_
 refine zR 2 ?_
 refine zL ⟨b56, 1, none⟩ (.int .i64 8) (hs59.cellAt 0 rfl rfl) ?_
 refine zR 1 ?_
 refine zL ⟨b56, 2, none⟩ (.int .i64 1) (hs59.cellAt 0 rfl rfl) ?_
 refine zR 1 ?_
 refine zI ((264 + (208 * gw)) + 8) (wrap_i64 (by omega) (by omega)) ?_
 refine zE 1 (hK62 _ _ ?_)
 refine W.exit (exit_seq (exit_here ?_))
 refine hK52 _ _ ?_
 refine W.region ?_
 refine zE 2 ?_
 refine loopAt_next ?_
 refine loopAt_round ?_
 refine W.sr fun K63 hK63 => ?_
 refine zE 1 (hK63 _ _ ?_)
 refine W.seq fun K64 hK64 => ?_
 refine W.cond_true true (by kernel_rfl) rfl ?_
 refine W.skip ?_
 refine hK64 _ _ ?_
 refine W.seq fun K65 hK65 => ?_
 refine W.block ?_
 refine W.sr fun K66 hK66 => ?_
 refine zR 1 ?_
 refine zN [(.int .u8 0), (.int .i64 0), (.int .i64 0)] 142 hs59 fun b69 w67 hs68 => ?_
 refine ops_store (off := 0) (cs := [(.int .u8 0), (.int .i64 0), (.int .i64 0)]) (vs := [(.int .u8 7), (.int .i64 8), (.int .i64 1)]) hs68 (by kernel_rfl) (by simp) rfl (fun w70 hs71 => ?_)
 have hs72 : St B w [] w70 [blk b69 (.cells [(.int .u8 7), (.int .i64 8), (.int .i64 1)].toArray 142 (0, 0)), blk b56 (.cells [(.int .u8 6), (.int .i64 8), (.int .i64 1)].toArray 142 (0, 0)), blk b43 (.cells [(.int .u8 5), (.int .i64 208), (.int .i64 gw)].toArray 142 (0, 0)), blk b30 (.cells [(.int .u8 2), (.int .i64 64), (.int .i64 4)].toArray 142 (0, 0)), blk b17 (.cells [(.int .u8 1), (.int .i64 8), (.int .i64 1)].toArray 142 (0, 0)), blk b4 (.cells [(.int .i64 gw), (.int .i64 gi), (.int .i64 gb)].toArray 31 (0, 0))] := hs71
 refine zD (hK66 _ _ ?_)
 refine W.seq fun K73 hK73 => ?_
 refine W.sr fun K74 hK74 => ?_
 refine zR 1 ?_
 refine zL ⟨b69, 0, none⟩ (.int .u8 7) (hs72.cellAt 0 rfl rfl) ?_
 refine zE 2 (hK74 _ _ ?_)
 refine W.cond_true true (by kernel_rfl) rfl ?_
 refine W.sr fun K75 hK75 => ?_
 refine zR 2 ?_
 refine zL ⟨b69, 1, none⟩ (.int .i64 8) (hs72.cellAt 0 rfl rfl) ?_
 refine zR 1 ?_
 refine zL ⟨b69, 2, none⟩ (.int .i64 1) (hs72.cellAt 0 rfl rfl) ?_
 refine zR 1 ?_
 refine zI (((264 + (208 * gw)) + 8) + 8) (wrap_i64 (by omega) (by omega)) ?_
 refine zE 1 (hK75 _ _ ?_)
 refine W.exit (exit_seq (exit_here ?_))
 refine hK65 _ _ ?_
 refine W.region ?_
 refine zE 2 ?_
 refine loopAt_next ?_
 refine loopAt_round ?_
 refine W.sr fun K76 hK76 => ?_
 refine zE 1 (hK76 _ _ ?_)
 refine W.seq fun K77 hK77 => ?_
 refine W.cond_true true (by kernel_rfl) rfl ?_
 refine W.skip ?_
 refine hK77 _ _ ?_
 refine W.seq fun K78 hK78 => ?_
 refine W.block ?_
 refine W.sr fun K79 hK79 => ?_
 refine zR 1 ?_
 refine zN [(.int .u8 0), (.int .i64 0), (.int .i64 0)] 142 hs72 fun b82 w80 hs81 => ?_
 refine ops_store (off := 0) (cs := [(.int .u8 0), (.int .i64 0), (.int .i64 0)]) (vs := [(.int .u8 8), (.int .i64 16), (.int .i64 gi)]) hs81 (by kernel_rfl) (by simp) rfl (fun w83 hs84 => ?_)
 have hs85 : St B w [] w83 [blk b82 (.cells [(.int .u8 8), (.int .i64 16), (.int .i64 gi)].toArray 142 (0, 0)), blk b69 (.cells [(.int .u8 7), (.int .i64 8), (.int .i64 1)].toArray 142 (0, 0)), blk b56 (.cells [(.int .u8 6), (.int .i64 8), (.int .i64 1)].toArray 142 (0, 0)), blk b43 (.cells [(.int .u8 5), (.int .i64 208), (.int .i64 gw)].toArray 142 (0, 0)), blk b30 (.cells [(.int .u8 2), (.int .i64 64), (.int .i64 4)].toArray 142 (0, 0)), blk b17 (.cells [(.int .u8 1), (.int .i64 8), (.int .i64 1)].toArray 142 (0, 0)), blk b4 (.cells [(.int .i64 gw), (.int .i64 gi), (.int .i64 gb)].toArray 31 (0, 0))] := hs84
 refine zD (hK79 _ _ ?_)
 refine W.seq fun K86 hK86 => ?_
 refine W.sr fun K87 hK87 => ?_
 refine zR 1 ?_
 refine zL ⟨b82, 0, none⟩ (.int .u8 8) (hs85.cellAt 0 rfl rfl) ?_
 refine zE 2 (hK87 _ _ ?_)
 refine W.cond_false false (by kernel_rfl) rfl ?_
 refine W.skip ?_
 refine hK86 _ _ ?_
 refine W.seq fun K88 hK88 => ?_
 refine W.sr fun K89 hK89 => ?_
 refine ops_R (runs_loadAgg (ad := ⟨b4, 0, none⟩) (cs := [(.int .i64 gw), (.int .i64 gi), (.int .i64 gb)]) (by kernel_rfl) (cells_sub (hs85.heapAt 6 rfl) rfl)) ?_
 refine zC00 hs85 (may_spec (gw := gw) (gi := gi) (gb := gb) B _) fun w90 hs92 => ?_
 refine zR 1 ?_
 rcases Bool.eq_false_or_eq_true (decide (May gw gi gb)) with h93 | h93
 ·
  have h93p := of_decide_eq_true h93
  refine zS 28 h93 ?_
  refine zS 27 h93 ?_
  refine zR 2 ?_
  refine zL ⟨b82, 2, none⟩ (.int .i64 gi) (hs92.cellAt 0 rfl rfl) ?_
  refine zI (gi - 1) (wrap_i64 (by omega) (by omega)) ?_
  refine zC00 hs92 (within_spec (n_ := n_) (f_ := 0) (t_ := (gi - 1)) B _) fun w94 hs96 => ?_
  refine zE 1 (hK89 _ _ ?_)
  refine W.cond (decide (0 ≤ n_ ∧ n_ ≤ (gi - 1))) (by kernel_rfl) (fun h97 => ?_) (fun h97 => ?_)
  ·
   have h97p := of_decide_eq_true h97
   refine W.sr fun K98 hK98 => ?_
   refine zR 2 ?_
   refine zL ⟨b82, 1, none⟩ (.int .i64 16) (hs96.cellAt 0 rfl rfl) ?_
   refine zR 1 ?_
   refine zI (16 * n_) (wrap_i64 (by omega) (by omega)) ?_
   refine zI ((((264 + (208 * gw)) + 8) + 8) + (16 * n_)) (wrap_i64 (by omega) (by omega)) ?_
   refine zE 1 (hK98 _ _ ?_)
   refine W.ret (ret_seq (ret_block (ret_seq (ret_seq (ret_block (ret_seq ?_))))))
   have hs99 := St.tk0 hs96
   refine ret_of (.int .i64 ((((264 + (208 * gw)) + 8) + 8) + (16 * n_))) (by kernel_rfl) ⟨_, ⟨congrArg (Value.int .i64) (by first | contradiction | (simp only [placeOf, if_pos hm]; split <;> omega) | (simp only [placeOf, if_neg hm]; done) | (simp only [placeOf, if_pos hm]; omega)), rfl⟩, hs99⟩
  ·
   have h97p := of_decide_eq_false h97
   refine W.skip ?_
   refine hK88 _ _ ?_
   refine W.exit (exit_block (by decide) (exit_seq (exit_seq (exit_here ?_))))
   refine hK6 _ _ ?_
   refine W.sr fun K100 hK100 => ?_
   refine zE 1 (hK100 _ _ ?_)
   refine W.ret ?_
   have hs101 := St.tk0 hs96
   refine ret_of (.int .i64 (-1)) (by kernel_rfl) ⟨_, ⟨congrArg (Value.int .i64) (by first | contradiction | (simp only [placeOf, if_pos hm]; split <;> omega) | (simp only [placeOf, if_neg hm]; done) | (simp only [placeOf, if_pos hm]; omega)), rfl⟩, hs101⟩
 ·
  have h93p := of_decide_eq_false h93
  refine zS 28 h93 ?_
  refine zS 27 h93 ?_
  refine zE 6 (hK89 _ _ ?_)
  refine W.cond_false false (by kernel_rfl) rfl ?_
  refine W.skip ?_
  refine hK88 _ _ ?_
  refine W.exit (exit_block (by decide) (exit_seq (exit_seq (exit_here ?_))))
  refine hK6 _ _ ?_
  refine W.sr fun K102 hK102 => ?_
  refine zE 1 (hK102 _ _ ?_)
  refine W.ret ?_
  have hs103 := St.tk0 hs92
  refine ret_of (.int .i64 (-1)) (by kernel_rfl) ⟨_, ⟨congrArg (Value.int .i64) (by first | contradiction | (simp only [placeOf, if_pos hm]; split <;> omega) | (simp only [placeOf, if_neg hm]; done) | (simp only [placeOf, if_pos hm]; omega)), rfl⟩, hs103⟩

theorem place8_not {gw gi gb n_ : Int} (B : Nat) (w : World) (hm : ¬ May gw gi gb) : Spec Tryz.prog 91 #[(.agg #[(.int .i64 gw), (.int .i64 gi), (.int .i64 gb)]), (.int .u8 8), (.int .i64 n_)] B w [] (fun v H' => v = .int .i64 (placeOf 8 gw gi gb n_) ∧ H' = []) := by
 refine spec_Q Tryz.func91 rfl fun hs => ?_
 refine W.sr fun K1 hK1 => ?_
 refine zN [(.int .i64 gw), (.int .i64 gi), (.int .i64 gb)] 31 hs fun b4 w2 hs3 => ?_
 refine zE 1 (hK1 _ _ ?_)
 refine W.sr fun K5 hK5 => ?_
 refine zE 1 (hK5 _ _ ?_)
 refine W.seq fun K6 hK6 => ?_
 refine W.sr fun K7 hK7 => ?_
 refine ops_R (runs_loadAgg (ad := ⟨b4, 0, none⟩) (cs := [(.int .i64 gw), (.int .i64 gi), (.int .i64 gb)]) (by kernel_rfl) (cells_sub (hs3.heapAt 0 rfl) rfl)) ?_
 refine zC00 hs3 (rows_spec (gw := gw) (gi := gi) (gb := gb) B _) fun w8 hs10 => ?_
 refine zE 1 (hK7 _ _ ?_)
 refine W.block ?_
 refine W.loop_start ?_
 refine loopAt_round ?_
 refine W.sr fun K11 hK11 => ?_
 refine zE 1 (hK11 _ _ ?_)
 refine W.seq fun K12 hK12 => ?_
 refine W.cond_true true (by kernel_rfl) rfl ?_
 refine W.skip ?_
 refine hK12 _ _ ?_
 refine W.seq fun K13 hK13 => ?_
 refine W.block ?_
 refine W.sr fun K14 hK14 => ?_
 refine zR 1 ?_
 refine zN [(.int .u8 0), (.int .i64 0), (.int .i64 0)] 142 hs10 fun b17 w15 hs16 => ?_
 refine ops_store (off := 0) (cs := [(.int .u8 0), (.int .i64 0), (.int .i64 0)]) (vs := [(.int .u8 1), (.int .i64 8), (.int .i64 1)]) hs16 (by kernel_rfl) (by simp) rfl (fun w18 hs19 => ?_)
 have hs20 : St B w [] w18 [blk b17 (.cells [(.int .u8 1), (.int .i64 8), (.int .i64 1)].toArray 142 (0, 0)), blk b4 (.cells [(.int .i64 gw), (.int .i64 gi), (.int .i64 gb)].toArray 31 (0, 0))] := hs19
 refine zD (hK14 _ _ ?_)
 refine W.seq fun K21 hK21 => ?_
 refine W.sr fun K22 hK22 => ?_
 refine zR 1 ?_
 refine zL ⟨b17, 0, none⟩ (.int .u8 1) (hs20.cellAt 0 rfl rfl) ?_
 refine zE 2 (hK22 _ _ ?_)
 refine W.cond_true true (by kernel_rfl) rfl ?_
 refine W.sr fun K23 hK23 => ?_
 refine zR 2 ?_
 refine zL ⟨b17, 1, none⟩ (.int .i64 8) (hs20.cellAt 0 rfl rfl) ?_
 refine zR 1 ?_
 refine zL ⟨b17, 2, none⟩ (.int .i64 1) (hs20.cellAt 0 rfl rfl) ?_
 refine zE 3 (hK23 _ _ ?_)
 refine W.exit (exit_seq (exit_here ?_))
 refine hK13 _ _ ?_
 refine W.region ?_
 refine zE 2 ?_
 refine loopAt_next ?_
 refine loopAt_round ?_
 refine W.sr fun K24 hK24 => ?_
 refine zE 1 (hK24 _ _ ?_)
 refine W.seq fun K25 hK25 => ?_
 refine W.cond_true true (by kernel_rfl) rfl ?_
 refine W.skip ?_
 refine hK25 _ _ ?_
 refine W.seq fun K26 hK26 => ?_
 refine W.block ?_
 refine W.sr fun K27 hK27 => ?_
 refine zR 1 ?_
 refine zN [(.int .u8 0), (.int .i64 0), (.int .i64 0)] 142 hs20 fun b30 w28 hs29 => ?_
 refine ops_store (off := 0) (cs := [(.int .u8 0), (.int .i64 0), (.int .i64 0)]) (vs := [(.int .u8 2), (.int .i64 64), (.int .i64 4)]) hs29 (by kernel_rfl) (by simp) rfl (fun w31 hs32 => ?_)
 have hs33 : St B w [] w31 [blk b30 (.cells [(.int .u8 2), (.int .i64 64), (.int .i64 4)].toArray 142 (0, 0)), blk b17 (.cells [(.int .u8 1), (.int .i64 8), (.int .i64 1)].toArray 142 (0, 0)), blk b4 (.cells [(.int .i64 gw), (.int .i64 gi), (.int .i64 gb)].toArray 31 (0, 0))] := hs32
 refine zD (hK27 _ _ ?_)
 refine W.seq fun K34 hK34 => ?_
 refine W.sr fun K35 hK35 => ?_
 refine zR 1 ?_
 refine zL ⟨b30, 0, none⟩ (.int .u8 2) (hs33.cellAt 0 rfl rfl) ?_
 refine zE 2 (hK35 _ _ ?_)
 refine W.cond_true true (by kernel_rfl) rfl ?_
 refine W.sr fun K36 hK36 => ?_
 refine zR 2 ?_
 refine zL ⟨b30, 1, none⟩ (.int .i64 64) (hs33.cellAt 0 rfl rfl) ?_
 refine zR 1 ?_
 refine zL ⟨b30, 2, none⟩ (.int .i64 4) (hs33.cellAt 0 rfl rfl) ?_
 refine zE 3 (hK36 _ _ ?_)
 refine W.exit (exit_seq (exit_here ?_))
 refine hK26 _ _ ?_
 refine W.region ?_
 refine zE 2 ?_
 refine loopAt_next ?_
 refine loopAt_round ?_
 refine W.sr fun K37 hK37 => ?_
 refine zE 1 (hK37 _ _ ?_)
 refine W.seq fun K38 hK38 => ?_
 refine W.cond_true true (by kernel_rfl) rfl ?_
 refine W.skip ?_
 refine hK38 _ _ ?_
 refine W.seq fun K39 hK39 => ?_
 refine W.block ?_
 refine W.sr fun K40 hK40 => ?_
 refine zR 1 ?_
 refine zN [(.int .u8 0), (.int .i64 0), (.int .i64 0)] 142 hs33 fun b43 w41 hs42 => ?_
 refine ops_store (off := 0) (cs := [(.int .u8 0), (.int .i64 0), (.int .i64 0)]) (vs := [(.int .u8 5), (.int .i64 208), (.int .i64 gw)]) hs42 (by kernel_rfl) (by simp) rfl (fun w44 hs45 => ?_)
 have hs46 : St B w [] w44 [blk b43 (.cells [(.int .u8 5), (.int .i64 208), (.int .i64 gw)].toArray 142 (0, 0)), blk b30 (.cells [(.int .u8 2), (.int .i64 64), (.int .i64 4)].toArray 142 (0, 0)), blk b17 (.cells [(.int .u8 1), (.int .i64 8), (.int .i64 1)].toArray 142 (0, 0)), blk b4 (.cells [(.int .i64 gw), (.int .i64 gi), (.int .i64 gb)].toArray 31 (0, 0))] := hs45
 refine zD (hK40 _ _ ?_)
 refine W.seq fun K47 hK47 => ?_
 refine W.sr fun K48 hK48 => ?_
 refine zR 1 ?_
 refine zL ⟨b43, 0, none⟩ (.int .u8 5) (hs46.cellAt 0 rfl rfl) ?_
 refine zE 2 (hK48 _ _ ?_)
 refine W.cond_true true (by kernel_rfl) rfl ?_
 refine W.sr fun K49 hK49 => ?_
 refine zR 2 ?_
 refine zL ⟨b43, 1, none⟩ (.int .i64 208) (hs46.cellAt 0 rfl rfl) ?_
 refine zR 1 ?_
 refine zL ⟨b43, 2, none⟩ (.int .i64 gw) (hs46.cellAt 0 rfl rfl) ?_
 refine ops_val (v := .int .i64 (IntKind.i64.wrap (208 * gw))) (v' := .int .i64 (IntKind.i64.wrap (208 * gw))) (by kernel_rfl) rfl ?_
 refine ops_val (v := .int .i64 (IntKind.i64.wrap (264 + (IntKind.i64.wrap (208 * gw))))) (v' := .int .i64 (IntKind.i64.wrap (264 + (IntKind.i64.wrap (208 * gw))))) (by kernel_rfl) rfl ?_
 refine zE 1 (hK49 _ _ ?_)
 refine W.exit (exit_seq (exit_here ?_))
 refine hK39 _ _ ?_
 refine W.region ?_
 refine zE 2 ?_
 refine loopAt_next ?_
 refine loopAt_round ?_
 refine W.sr fun K50 hK50 => ?_
 refine zE 1 (hK50 _ _ ?_)
 refine W.seq fun K51 hK51 => ?_
 refine W.cond_true true (by kernel_rfl) rfl ?_
 refine W.skip ?_
 refine hK51 _ _ ?_
 refine W.seq fun K52 hK52 => ?_
 refine W.block ?_
 refine W.sr fun K53 hK53 => ?_
 refine zR 1 ?_
 refine zN [(.int .u8 0), (.int .i64 0), (.int .i64 0)] 142 hs46 fun b56 w54 hs55 => ?_
 refine ops_store (off := 0) (cs := [(.int .u8 0), (.int .i64 0), (.int .i64 0)]) (vs := [(.int .u8 6), (.int .i64 8), (.int .i64 1)]) hs55 (by kernel_rfl) (by simp) rfl (fun w57 hs58 => ?_)
 have hs59 : St B w [] w57 [blk b56 (.cells [(.int .u8 6), (.int .i64 8), (.int .i64 1)].toArray 142 (0, 0)), blk b43 (.cells [(.int .u8 5), (.int .i64 208), (.int .i64 gw)].toArray 142 (0, 0)), blk b30 (.cells [(.int .u8 2), (.int .i64 64), (.int .i64 4)].toArray 142 (0, 0)), blk b17 (.cells [(.int .u8 1), (.int .i64 8), (.int .i64 1)].toArray 142 (0, 0)), blk b4 (.cells [(.int .i64 gw), (.int .i64 gi), (.int .i64 gb)].toArray 31 (0, 0))] := hs58
 refine zD (hK53 _ _ ?_)
 refine W.seq fun K60 hK60 => ?_
 refine W.sr fun K61 hK61 => ?_
 refine zR 1 ?_
 refine zL ⟨b56, 0, none⟩ (.int .u8 6) (hs59.cellAt 0 rfl rfl) ?_
 refine zE 2 (hK61 _ _ ?_)
 refine W.cond_true true (by kernel_rfl) rfl ?_
 refine W.sr fun K62 hK62 => ?_
 refine zR 2 ?_
 refine zL ⟨b56, 1, none⟩ (.int .i64 8) (hs59.cellAt 0 rfl rfl) ?_
 refine zR 1 ?_
 refine zL ⟨b56, 2, none⟩ (.int .i64 1) (hs59.cellAt 0 rfl rfl) ?_
 refine zR 1 ?_
 refine ops_val (v := .int .i64 (IntKind.i64.wrap ((IntKind.i64.wrap (264 + (IntKind.i64.wrap (208 * gw)))) + 8))) (v' := .int .i64 (IntKind.i64.wrap ((IntKind.i64.wrap (264 + (IntKind.i64.wrap (208 * gw)))) + 8))) (by kernel_rfl) rfl ?_
 refine zE 1 (hK62 _ _ ?_)
 refine W.exit (exit_seq (exit_here ?_))
 refine hK52 _ _ ?_
 refine W.region ?_
 refine zE 2 ?_
 refine loopAt_next ?_
 refine loopAt_round ?_
 refine W.sr fun K63 hK63 => ?_
 refine zE 1 (hK63 _ _ ?_)
 refine W.seq fun K64 hK64 => ?_
 refine W.cond_true true (by kernel_rfl) rfl ?_
 refine W.skip ?_
 refine hK64 _ _ ?_
 refine W.seq fun K65 hK65 => ?_
 refine W.block ?_
 refine W.sr fun K66 hK66 => ?_
 refine zR 1 ?_
 refine zN [(.int .u8 0), (.int .i64 0), (.int .i64 0)] 142 hs59 fun b69 w67 hs68 => ?_
 refine ops_store (off := 0) (cs := [(.int .u8 0), (.int .i64 0), (.int .i64 0)]) (vs := [(.int .u8 7), (.int .i64 8), (.int .i64 1)]) hs68 (by kernel_rfl) (by simp) rfl (fun w70 hs71 => ?_)
 have hs72 : St B w [] w70 [blk b69 (.cells [(.int .u8 7), (.int .i64 8), (.int .i64 1)].toArray 142 (0, 0)), blk b56 (.cells [(.int .u8 6), (.int .i64 8), (.int .i64 1)].toArray 142 (0, 0)), blk b43 (.cells [(.int .u8 5), (.int .i64 208), (.int .i64 gw)].toArray 142 (0, 0)), blk b30 (.cells [(.int .u8 2), (.int .i64 64), (.int .i64 4)].toArray 142 (0, 0)), blk b17 (.cells [(.int .u8 1), (.int .i64 8), (.int .i64 1)].toArray 142 (0, 0)), blk b4 (.cells [(.int .i64 gw), (.int .i64 gi), (.int .i64 gb)].toArray 31 (0, 0))] := hs71
 refine zD (hK66 _ _ ?_)
 refine W.seq fun K73 hK73 => ?_
 refine W.sr fun K74 hK74 => ?_
 refine zR 1 ?_
 refine zL ⟨b69, 0, none⟩ (.int .u8 7) (hs72.cellAt 0 rfl rfl) ?_
 refine zE 2 (hK74 _ _ ?_)
 refine W.cond_true true (by kernel_rfl) rfl ?_
 refine W.sr fun K75 hK75 => ?_
 refine zR 2 ?_
 refine zL ⟨b69, 1, none⟩ (.int .i64 8) (hs72.cellAt 0 rfl rfl) ?_
 refine zR 1 ?_
 refine zL ⟨b69, 2, none⟩ (.int .i64 1) (hs72.cellAt 0 rfl rfl) ?_
 refine zR 1 ?_
 refine ops_val (v := .int .i64 (IntKind.i64.wrap ((IntKind.i64.wrap ((IntKind.i64.wrap (264 + (IntKind.i64.wrap (208 * gw)))) + 8)) + 8))) (v' := .int .i64 (IntKind.i64.wrap ((IntKind.i64.wrap ((IntKind.i64.wrap (264 + (IntKind.i64.wrap (208 * gw)))) + 8)) + 8))) (by kernel_rfl) rfl ?_
 refine zE 1 (hK75 _ _ ?_)
 refine W.exit (exit_seq (exit_here ?_))
 refine hK65 _ _ ?_
 refine W.region ?_
 refine zE 2 ?_
 refine loopAt_next ?_
 refine loopAt_round ?_
 refine W.sr fun K76 hK76 => ?_
 refine zE 1 (hK76 _ _ ?_)
 refine W.seq fun K77 hK77 => ?_
 refine W.cond_true true (by kernel_rfl) rfl ?_
 refine W.skip ?_
 refine hK77 _ _ ?_
 refine W.seq fun K78 hK78 => ?_
 refine W.block ?_
 refine W.sr fun K79 hK79 => ?_
 refine zR 1 ?_
 refine zN [(.int .u8 0), (.int .i64 0), (.int .i64 0)] 142 hs72 fun b82 w80 hs81 => ?_
 refine ops_store (off := 0) (cs := [(.int .u8 0), (.int .i64 0), (.int .i64 0)]) (vs := [(.int .u8 8), (.int .i64 16), (.int .i64 gi)]) hs81 (by kernel_rfl) (by simp) rfl (fun w83 hs84 => ?_)
 have hs85 : St B w [] w83 [blk b82 (.cells [(.int .u8 8), (.int .i64 16), (.int .i64 gi)].toArray 142 (0, 0)), blk b69 (.cells [(.int .u8 7), (.int .i64 8), (.int .i64 1)].toArray 142 (0, 0)), blk b56 (.cells [(.int .u8 6), (.int .i64 8), (.int .i64 1)].toArray 142 (0, 0)), blk b43 (.cells [(.int .u8 5), (.int .i64 208), (.int .i64 gw)].toArray 142 (0, 0)), blk b30 (.cells [(.int .u8 2), (.int .i64 64), (.int .i64 4)].toArray 142 (0, 0)), blk b17 (.cells [(.int .u8 1), (.int .i64 8), (.int .i64 1)].toArray 142 (0, 0)), blk b4 (.cells [(.int .i64 gw), (.int .i64 gi), (.int .i64 gb)].toArray 31 (0, 0))] := hs84
 refine zD (hK79 _ _ ?_)
 refine W.seq fun K86 hK86 => ?_
 refine W.sr fun K87 hK87 => ?_
 refine zR 1 ?_
 refine zL ⟨b82, 0, none⟩ (.int .u8 8) (hs85.cellAt 0 rfl rfl) ?_
 refine zE 2 (hK87 _ _ ?_)
 refine W.cond_false false (by kernel_rfl) rfl ?_
 refine W.skip ?_
 refine hK86 _ _ ?_
 refine W.seq fun K88 hK88 => ?_
 refine W.sr fun K89 hK89 => ?_
 refine ops_R (runs_loadAgg (ad := ⟨b4, 0, none⟩) (cs := [(.int .i64 gw), (.int .i64 gi), (.int .i64 gb)]) (by kernel_rfl) (cells_sub (hs85.heapAt 6 rfl) rfl)) ?_
 refine zC00 hs85 (may_spec (gw := gw) (gi := gi) (gb := gb) B _) fun w90 hs92 => ?_
 refine zR 1 ?_
 rcases Bool.eq_false_or_eq_true (decide (May gw gi gb)) with h93 | h93
 ·
  have h93p := of_decide_eq_true h93
  refine zS 28 h93 ?_
  refine zS 27 h93 ?_
  refine zR 2 ?_
  refine zL ⟨b82, 2, none⟩ (.int .i64 gi) (hs92.cellAt 0 rfl rfl) ?_
  refine ops_val (v := .int .i64 (IntKind.i64.wrap (gi - 1))) (v' := .int .i64 (IntKind.i64.wrap (gi - 1))) (by kernel_rfl) rfl ?_
  refine zC00 hs92 (within_spec (n_ := n_) (f_ := 0) (t_ := (IntKind.i64.wrap (gi - 1))) B _) fun w94 hs96 => ?_
  refine zE 1 (hK89 _ _ ?_)
  refine W.cond (decide (0 ≤ n_ ∧ n_ ≤ (IntKind.i64.wrap (gi - 1)))) (by kernel_rfl) (fun h97 => ?_) (fun h97 => ?_)
  ·
   have h97p := of_decide_eq_true h97
   refine W.sr fun K98 hK98 => ?_
   refine zR 2 ?_
   refine zL ⟨b82, 1, none⟩ (.int .i64 16) (hs96.cellAt 0 rfl rfl) ?_
   refine zR 1 ?_
   refine ops_val (v := .int .i64 (IntKind.i64.wrap (16 * n_))) (v' := .int .i64 (IntKind.i64.wrap (16 * n_))) (by kernel_rfl) rfl ?_
   refine ops_val (v := .int .i64 (IntKind.i64.wrap ((IntKind.i64.wrap ((IntKind.i64.wrap ((IntKind.i64.wrap (264 + (IntKind.i64.wrap (208 * gw)))) + 8)) + 8)) + (IntKind.i64.wrap (16 * n_))))) (v' := .int .i64 (IntKind.i64.wrap ((IntKind.i64.wrap ((IntKind.i64.wrap ((IntKind.i64.wrap (264 + (IntKind.i64.wrap (208 * gw)))) + 8)) + 8)) + (IntKind.i64.wrap (16 * n_))))) (by kernel_rfl) rfl ?_
   refine zE 1 (hK98 _ _ ?_)
   refine W.ret (ret_seq (ret_block (ret_seq (ret_seq (ret_block (ret_seq ?_))))))
   have hs99 := St.tk0 hs96
   refine ret_of (.int .i64 (IntKind.i64.wrap ((IntKind.i64.wrap ((IntKind.i64.wrap ((IntKind.i64.wrap (264 + (IntKind.i64.wrap (208 * gw)))) + 8)) + 8)) + (IntKind.i64.wrap (16 * n_))))) (by kernel_rfl) ⟨_, ⟨congrArg (Value.int .i64) (by first | contradiction | (simp only [placeOf, if_pos hm]; split <;> omega) | (simp only [placeOf, if_neg hm]; done) | (simp only [placeOf, if_pos hm]; omega)), rfl⟩, hs99⟩
  ·
   have h97p := of_decide_eq_false h97
   refine W.skip ?_
   refine hK88 _ _ ?_
   refine W.exit (exit_block (by decide) (exit_seq (exit_seq (exit_here ?_))))
   refine hK6 _ _ ?_
   refine W.sr fun K100 hK100 => ?_
   refine zE 1 (hK100 _ _ ?_)
   refine W.ret ?_
   have hs101 := St.tk0 hs96
   refine ret_of (.int .i64 (-1)) (by kernel_rfl) ⟨_, ⟨congrArg (Value.int .i64) (by first | contradiction | (simp only [placeOf, if_pos hm]; split <;> omega) | (simp only [placeOf, if_neg hm]; done) | (simp only [placeOf, if_pos hm]; omega)), rfl⟩, hs101⟩
 ·
  have h93p := of_decide_eq_false h93
  refine zS 28 h93 ?_
  refine zS 27 h93 ?_
  refine zE 6 (hK89 _ _ ?_)
  refine W.cond_false false (by kernel_rfl) rfl ?_
  refine W.skip ?_
  refine hK88 _ _ ?_
  refine W.exit (exit_block (by decide) (exit_seq (exit_seq (exit_here ?_))))
  refine hK6 _ _ ?_
  refine W.sr fun K102 hK102 => ?_
  refine zE 1 (hK102 _ _ ?_)
  refine W.ret ?_
  have hs103 := St.tk0 hs92
  refine ret_of (.int .i64 (-1)) (by kernel_rfl) ⟨_, ⟨congrArg (Value.int .i64) (by first | contradiction | (simp only [placeOf, if_pos hm]; split <;> omega) | (simp only [placeOf, if_neg hm]; done) | (simp only [placeOf, if_pos hm]; omega)), rfl⟩, hs103⟩

theorem place8_spec {gw gi gb n_ : Int} (B : Nat) (w : World) : Spec Tryz.prog 91 #[(.agg #[(.int .i64 gw), (.int .i64 gi), (.int .i64 gb)]), (.int .u8 8), (.int .i64 n_)] B w [] (fun v H' => v = .int .i64 (placeOf 8 gw gi gb n_) ∧ H' = []) := by
 by_cases hm : May gw gi gb
 · exact place8_may B w hm
 · exact place8_not B w hm

theorem place9_may {gw gi gb n_ : Int} (B : Nat) (w : World) (hm : May gw gi gb) : Spec Tryz.prog 91 #[(.agg #[(.int .i64 gw), (.int .i64 gi), (.int .i64 gb)]), (.int .u8 9), (.int .i64 n_)] B w [] (fun v H' => v = .int .i64 (placeOf 9 gw gi gb n_) ∧ H' = []) := by
 refine spec_Q Tryz.func91 rfl fun hs => ?_
 have hm_ : (1 ≤ gw ∧ gw ≤ 4) ∧ (2 ≤ gi ∧ gi ≤ 64) ∧ (2 ≤ gb ∧ gb ≤ 512) := hm
 refine W.sr fun K1 hK1 => ?_
 refine zN [(.int .i64 gw), (.int .i64 gi), (.int .i64 gb)] 31 hs fun b4 w2 hs3 => ?_
 refine zE 1 (hK1 _ _ ?_)
 refine W.sr fun K5 hK5 => ?_
 refine zE 1 (hK5 _ _ ?_)
 refine W.seq fun K6 hK6 => ?_
 refine W.sr fun K7 hK7 => ?_
 refine ops_R (runs_loadAgg (ad := ⟨b4, 0, none⟩) (cs := [(.int .i64 gw), (.int .i64 gi), (.int .i64 gb)]) (by kernel_rfl) (cells_sub (hs3.heapAt 0 rfl) rfl)) ?_
 refine zC00 hs3 (rows_spec (gw := gw) (gi := gi) (gb := gb) B _) fun w8 hs10 => ?_
 refine zE 1 (hK7 _ _ ?_)
 refine W.block ?_
 refine W.loop_start ?_
 refine loopAt_round ?_
 refine W.sr fun K11 hK11 => ?_
 refine zE 1 (hK11 _ _ ?_)
 refine W.seq fun K12 hK12 => ?_
 refine W.cond_true true (by kernel_rfl) rfl ?_
 refine W.skip ?_
 refine hK12 _ _ ?_
 refine W.seq fun K13 hK13 => ?_
 refine W.block ?_
 refine W.sr fun K14 hK14 => ?_
 refine zR 1 ?_
 refine zN [(.int .u8 0), (.int .i64 0), (.int .i64 0)] 142 hs10 fun b17 w15 hs16 => ?_
 refine ops_store (off := 0) (cs := [(.int .u8 0), (.int .i64 0), (.int .i64 0)]) (vs := [(.int .u8 1), (.int .i64 8), (.int .i64 1)]) hs16 (by kernel_rfl) (by simp) rfl (fun w18 hs19 => ?_)
 have hs20 : St B w [] w18 [blk b17 (.cells [(.int .u8 1), (.int .i64 8), (.int .i64 1)].toArray 142 (0, 0)), blk b4 (.cells [(.int .i64 gw), (.int .i64 gi), (.int .i64 gb)].toArray 31 (0, 0))] := hs19
 refine zD (hK14 _ _ ?_)
 refine W.seq fun K21 hK21 => ?_
 refine W.sr fun K22 hK22 => ?_
 refine zR 1 ?_
 refine zL ⟨b17, 0, none⟩ (.int .u8 1) (hs20.cellAt 0 rfl rfl) ?_
 refine zE 2 (hK22 _ _ ?_)
 refine W.cond_true true (by kernel_rfl) rfl ?_
 refine W.sr fun K23 hK23 => ?_
 refine zR 2 ?_
 refine zL ⟨b17, 1, none⟩ (.int .i64 8) (hs20.cellAt 0 rfl rfl) ?_
 refine zR 1 ?_
 refine zL ⟨b17, 2, none⟩ (.int .i64 1) (hs20.cellAt 0 rfl rfl) ?_
 refine zE 3 (hK23 _ _ ?_)
 refine W.exit (exit_seq (exit_here ?_))
 refine hK13 _ _ ?_
 refine W.region ?_
 refine zE 2 ?_
 refine loopAt_next ?_
 refine loopAt_round ?_
 refine W.sr fun K24 hK24 => ?_
 refine zE 1 (hK24 _ _ ?_)
 refine W.seq fun K25 hK25 => ?_
 refine W.cond_true true (by kernel_rfl) rfl ?_
 refine W.skip ?_
 refine hK25 _ _ ?_
 refine W.seq fun K26 hK26 => ?_
 refine W.block ?_
 refine W.sr fun K27 hK27 => ?_
 refine zR 1 ?_
 refine zN [(.int .u8 0), (.int .i64 0), (.int .i64 0)] 142 hs20 fun b30 w28 hs29 => ?_
 refine ops_store (off := 0) (cs := [(.int .u8 0), (.int .i64 0), (.int .i64 0)]) (vs := [(.int .u8 2), (.int .i64 64), (.int .i64 4)]) hs29 (by kernel_rfl) (by simp) rfl (fun w31 hs32 => ?_)
 have hs33 : St B w [] w31 [blk b30 (.cells [(.int .u8 2), (.int .i64 64), (.int .i64 4)].toArray 142 (0, 0)), blk b17 (.cells [(.int .u8 1), (.int .i64 8), (.int .i64 1)].toArray 142 (0, 0)), blk b4 (.cells [(.int .i64 gw), (.int .i64 gi), (.int .i64 gb)].toArray 31 (0, 0))] := hs32
 refine zD (hK27 _ _ ?_)
 refine W.seq fun K34 hK34 => ?_
 refine W.sr fun K35 hK35 => ?_
 refine zR 1 ?_
 refine zL ⟨b30, 0, none⟩ (.int .u8 2) (hs33.cellAt 0 rfl rfl) ?_
 refine zE 2 (hK35 _ _ ?_)
 refine W.cond_true true (by kernel_rfl) rfl ?_
 refine W.sr fun K36 hK36 => ?_
 refine zR 2 ?_
 refine zL ⟨b30, 1, none⟩ (.int .i64 64) (hs33.cellAt 0 rfl rfl) ?_
 refine zR 1 ?_
 refine zL ⟨b30, 2, none⟩ (.int .i64 4) (hs33.cellAt 0 rfl rfl) ?_
 refine zE 3 (hK36 _ _ ?_)
 refine W.exit (exit_seq (exit_here ?_))
 refine hK26 _ _ ?_
 refine W.region ?_
 refine zE 2 ?_
 refine loopAt_next ?_
 refine loopAt_round ?_
 refine W.sr fun K37 hK37 => ?_
 refine zE 1 (hK37 _ _ ?_)
 refine W.seq fun K38 hK38 => ?_
 refine W.cond_true true (by kernel_rfl) rfl ?_
 refine W.skip ?_
 refine hK38 _ _ ?_
 refine W.seq fun K39 hK39 => ?_
 refine W.block ?_
 refine W.sr fun K40 hK40 => ?_
 refine zR 1 ?_
 refine zN [(.int .u8 0), (.int .i64 0), (.int .i64 0)] 142 hs33 fun b43 w41 hs42 => ?_
 refine ops_store (off := 0) (cs := [(.int .u8 0), (.int .i64 0), (.int .i64 0)]) (vs := [(.int .u8 5), (.int .i64 208), (.int .i64 gw)]) hs42 (by kernel_rfl) (by simp) rfl (fun w44 hs45 => ?_)
 have hs46 : St B w [] w44 [blk b43 (.cells [(.int .u8 5), (.int .i64 208), (.int .i64 gw)].toArray 142 (0, 0)), blk b30 (.cells [(.int .u8 2), (.int .i64 64), (.int .i64 4)].toArray 142 (0, 0)), blk b17 (.cells [(.int .u8 1), (.int .i64 8), (.int .i64 1)].toArray 142 (0, 0)), blk b4 (.cells [(.int .i64 gw), (.int .i64 gi), (.int .i64 gb)].toArray 31 (0, 0))] := hs45
 refine zD (hK40 _ _ ?_)
 refine W.seq fun K47 hK47 => ?_
 refine W.sr fun K48 hK48 => ?_
 refine zR 1 ?_
 refine zL ⟨b43, 0, none⟩ (.int .u8 5) (hs46.cellAt 0 rfl rfl) ?_
 refine zE 2 (hK48 _ _ ?_)
 refine W.cond_true true (by kernel_rfl) rfl ?_
 refine W.sr fun K49 hK49 => ?_
 refine zR 2 ?_
 refine zL ⟨b43, 1, none⟩ (.int .i64 208) (hs46.cellAt 0 rfl rfl) ?_
 refine zR 1 ?_
 refine zL ⟨b43, 2, none⟩ (.int .i64 gw) (hs46.cellAt 0 rfl rfl) ?_
 refine zI (208 * gw) (wrap_i64 (by omega) (by omega)) ?_
 refine zI (264 + (208 * gw)) (wrap_i64 (by omega) (by omega)) ?_
 refine zE 1 (hK49 _ _ ?_)
 refine W.exit (exit_seq (exit_here ?_))
 refine hK39 _ _ ?_
 refine W.region ?_
 refine zE 2 ?_
 refine loopAt_next ?_
 refine loopAt_round ?_
 refine W.sr fun K50 hK50 => ?_
 refine zE 1 (hK50 _ _ ?_)
 refine W.seq fun K51 hK51 => ?_
 refine W.cond_true true (by kernel_rfl) rfl ?_
 refine W.skip ?_
 refine hK51 _ _ ?_
 refine W.seq fun K52 hK52 => ?_
 refine W.block ?_
 refine W.sr fun K53 hK53 => ?_
 refine zR 1 ?_
 refine zN [(.int .u8 0), (.int .i64 0), (.int .i64 0)] 142 hs46 fun b56 w54 hs55 => ?_
 refine ops_store (off := 0) (cs := [(.int .u8 0), (.int .i64 0), (.int .i64 0)]) (vs := [(.int .u8 6), (.int .i64 8), (.int .i64 1)]) hs55 (by kernel_rfl) (by simp) rfl (fun w57 hs58 => ?_)
 have hs59 : St B w [] w57 [blk b56 (.cells [(.int .u8 6), (.int .i64 8), (.int .i64 1)].toArray 142 (0, 0)), blk b43 (.cells [(.int .u8 5), (.int .i64 208), (.int .i64 gw)].toArray 142 (0, 0)), blk b30 (.cells [(.int .u8 2), (.int .i64 64), (.int .i64 4)].toArray 142 (0, 0)), blk b17 (.cells [(.int .u8 1), (.int .i64 8), (.int .i64 1)].toArray 142 (0, 0)), blk b4 (.cells [(.int .i64 gw), (.int .i64 gi), (.int .i64 gb)].toArray 31 (0, 0))] := hs58
 refine zD (hK53 _ _ ?_)
 refine W.seq fun K60 hK60 => ?_
 refine W.sr fun K61 hK61 => ?_
 refine zR 1 ?_
 refine zL ⟨b56, 0, none⟩ (.int .u8 6) (hs59.cellAt 0 rfl rfl) ?_
 refine zE 2 (hK61 _ _ ?_)
 refine W.cond_true true (by kernel_rfl) rfl ?_
 refine W.sr fun K62 hK62 => ?_
 refine zR 2 ?_
 refine zL ⟨b56, 1, none⟩ (.int .i64 8) (hs59.cellAt 0 rfl rfl) ?_
 refine zR 1 ?_
 refine zL ⟨b56, 2, none⟩ (.int .i64 1) (hs59.cellAt 0 rfl rfl) ?_
 refine zR 1 ?_
 refine zI ((264 + (208 * gw)) + 8) (wrap_i64 (by omega) (by omega)) ?_
 refine zE 1 (hK62 _ _ ?_)
 refine W.exit (exit_seq (exit_here ?_))
 refine hK52 _ _ ?_
 refine W.region ?_
 refine zE 2 ?_
 refine loopAt_next ?_
 refine loopAt_round ?_
 refine W.sr fun K63 hK63 => ?_
 refine zE 1 (hK63 _ _ ?_)
 refine W.seq fun K64 hK64 => ?_
 refine W.cond_true true (by kernel_rfl) rfl ?_
 refine W.skip ?_
 refine hK64 _ _ ?_
 refine W.seq fun K65 hK65 => ?_
 refine W.block ?_
 refine W.sr fun K66 hK66 => ?_
 refine zR 1 ?_
 refine zN [(.int .u8 0), (.int .i64 0), (.int .i64 0)] 142 hs59 fun b69 w67 hs68 => ?_
 refine ops_store (off := 0) (cs := [(.int .u8 0), (.int .i64 0), (.int .i64 0)]) (vs := [(.int .u8 7), (.int .i64 8), (.int .i64 1)]) hs68 (by kernel_rfl) (by simp) rfl (fun w70 hs71 => ?_)
 have hs72 : St B w [] w70 [blk b69 (.cells [(.int .u8 7), (.int .i64 8), (.int .i64 1)].toArray 142 (0, 0)), blk b56 (.cells [(.int .u8 6), (.int .i64 8), (.int .i64 1)].toArray 142 (0, 0)), blk b43 (.cells [(.int .u8 5), (.int .i64 208), (.int .i64 gw)].toArray 142 (0, 0)), blk b30 (.cells [(.int .u8 2), (.int .i64 64), (.int .i64 4)].toArray 142 (0, 0)), blk b17 (.cells [(.int .u8 1), (.int .i64 8), (.int .i64 1)].toArray 142 (0, 0)), blk b4 (.cells [(.int .i64 gw), (.int .i64 gi), (.int .i64 gb)].toArray 31 (0, 0))] := hs71
 refine zD (hK66 _ _ ?_)
 refine W.seq fun K73 hK73 => ?_
 refine W.sr fun K74 hK74 => ?_
 refine zR 1 ?_
 refine zL ⟨b69, 0, none⟩ (.int .u8 7) (hs72.cellAt 0 rfl rfl) ?_
 refine zE 2 (hK74 _ _ ?_)
 refine W.cond_true true (by kernel_rfl) rfl ?_
 refine W.sr fun K75 hK75 => ?_
 refine zR 2 ?_
 refine zL ⟨b69, 1, none⟩ (.int .i64 8) (hs72.cellAt 0 rfl rfl) ?_
 refine zR 1 ?_
 refine zL ⟨b69, 2, none⟩ (.int .i64 1) (hs72.cellAt 0 rfl rfl) ?_
 refine zR 1 ?_
 refine zI (((264 + (208 * gw)) + 8) + 8) (wrap_i64 (by omega) (by omega)) ?_
 refine zE 1 (hK75 _ _ ?_)
 refine W.exit (exit_seq (exit_here ?_))
 refine hK65 _ _ ?_
 refine W.region ?_
 refine zE 2 ?_
 refine loopAt_next ?_
 refine loopAt_round ?_
 refine W.sr fun K76 hK76 => ?_
 refine zE 1 (hK76 _ _ ?_)
 refine W.seq fun K77 hK77 => ?_
 refine W.cond_true true (by kernel_rfl) rfl ?_
 refine W.skip ?_
 refine hK77 _ _ ?_
 refine W.seq fun K78 hK78 => ?_
 refine W.block ?_
 refine W.sr fun K79 hK79 => ?_
 refine zR 1 ?_
 refine zN [(.int .u8 0), (.int .i64 0), (.int .i64 0)] 142 hs72 fun b82 w80 hs81 => ?_
 refine ops_store (off := 0) (cs := [(.int .u8 0), (.int .i64 0), (.int .i64 0)]) (vs := [(.int .u8 8), (.int .i64 16), (.int .i64 gi)]) hs81 (by kernel_rfl) (by simp) rfl (fun w83 hs84 => ?_)
 have hs85 : St B w [] w83 [blk b82 (.cells [(.int .u8 8), (.int .i64 16), (.int .i64 gi)].toArray 142 (0, 0)), blk b69 (.cells [(.int .u8 7), (.int .i64 8), (.int .i64 1)].toArray 142 (0, 0)), blk b56 (.cells [(.int .u8 6), (.int .i64 8), (.int .i64 1)].toArray 142 (0, 0)), blk b43 (.cells [(.int .u8 5), (.int .i64 208), (.int .i64 gw)].toArray 142 (0, 0)), blk b30 (.cells [(.int .u8 2), (.int .i64 64), (.int .i64 4)].toArray 142 (0, 0)), blk b17 (.cells [(.int .u8 1), (.int .i64 8), (.int .i64 1)].toArray 142 (0, 0)), blk b4 (.cells [(.int .i64 gw), (.int .i64 gi), (.int .i64 gb)].toArray 31 (0, 0))] := hs84
 refine zD (hK79 _ _ ?_)
 refine W.seq fun K86 hK86 => ?_
 refine W.sr fun K87 hK87 => ?_
 refine zR 1 ?_
 refine zL ⟨b82, 0, none⟩ (.int .u8 8) (hs85.cellAt 0 rfl rfl) ?_
 refine zE 2 (hK87 _ _ ?_)
 refine W.cond_true true (by kernel_rfl) rfl ?_
 refine W.sr fun K88 hK88 => ?_
 refine zR 2 ?_
 refine zL ⟨b82, 1, none⟩ (.int .i64 16) (hs85.cellAt 0 rfl rfl) ?_
 refine zR 1 ?_
 refine zL ⟨b82, 2, none⟩ (.int .i64 gi) (hs85.cellAt 0 rfl rfl) ?_
 refine zI (16 * gi) (wrap_i64 (by omega) (by omega)) ?_
 refine zI ((((264 + (208 * gw)) + 8) + 8) + (16 * gi)) (wrap_i64 (by omega) (by omega)) ?_
 refine zE 1 (hK88 _ _ ?_)
 refine W.exit (exit_seq (exit_here ?_))
 refine hK78 _ _ ?_
 refine W.region ?_
 refine zE 2 ?_
 refine loopAt_next ?_
 refine loopAt_round ?_
 refine W.sr fun K89 hK89 => ?_
 refine zE 1 (hK89 _ _ ?_)
 refine W.seq fun K90 hK90 => ?_
 refine W.cond_true true (by kernel_rfl) rfl ?_
 refine W.skip ?_
 refine hK90 _ _ ?_
 refine W.seq fun K91 hK91 => ?_
 refine W.block ?_
 refine W.sr fun K92 hK92 => ?_
 refine zR 1 ?_
 refine zN [(.int .u8 0), (.int .i64 0), (.int .i64 0)] 142 hs85 fun b95 w93 hs94 => ?_
 refine ops_store (off := 0) (cs := [(.int .u8 0), (.int .i64 0), (.int .i64 0)]) (vs := [(.int .u8 9), (.int .i64 8), (.int .i64 gb)]) hs94 (by kernel_rfl) (by simp) rfl (fun w96 hs97 => ?_)
 have hs98 : St B w [] w96 [blk b95 (.cells [(.int .u8 9), (.int .i64 8), (.int .i64 gb)].toArray 142 (0, 0)), blk b82 (.cells [(.int .u8 8), (.int .i64 16), (.int .i64 gi)].toArray 142 (0, 0)), blk b69 (.cells [(.int .u8 7), (.int .i64 8), (.int .i64 1)].toArray 142 (0, 0)), blk b56 (.cells [(.int .u8 6), (.int .i64 8), (.int .i64 1)].toArray 142 (0, 0)), blk b43 (.cells [(.int .u8 5), (.int .i64 208), (.int .i64 gw)].toArray 142 (0, 0)), blk b30 (.cells [(.int .u8 2), (.int .i64 64), (.int .i64 4)].toArray 142 (0, 0)), blk b17 (.cells [(.int .u8 1), (.int .i64 8), (.int .i64 1)].toArray 142 (0, 0)), blk b4 (.cells [(.int .i64 gw), (.int .i64 gi), (.int .i64 gb)].toArray 31 (0, 0))] := hs97
 refine zD (hK92 _ _ ?_)
 refine W.seq fun K99 hK99 => ?_
 refine W.sr fun K100 hK100 => ?_
 refine zR 1 ?_
 refine zL ⟨b95, 0, none⟩ (.int .u8 9) (hs98.cellAt 0 rfl rfl) ?_
 refine zE 2 (hK100 _ _ ?_)
 refine W.cond_false false (by kernel_rfl) rfl ?_
 refine W.skip ?_
 refine hK99 _ _ ?_
 refine W.seq fun K101 hK101 => ?_
 refine W.sr fun K102 hK102 => ?_
 refine ops_R (runs_loadAgg (ad := ⟨b4, 0, none⟩) (cs := [(.int .i64 gw), (.int .i64 gi), (.int .i64 gb)]) (by kernel_rfl) (cells_sub (hs98.heapAt 7 rfl) rfl)) ?_
 refine zC00 hs98 (may_spec (gw := gw) (gi := gi) (gb := gb) B _) fun w103 hs105 => ?_
 refine zR 1 ?_
 rcases Bool.eq_false_or_eq_true (decide (May gw gi gb)) with h106 | h106
 ·
  have h106p := of_decide_eq_true h106
  refine zS 28 h106 ?_
  refine zS 27 h106 ?_
  refine zR 2 ?_
  refine zL ⟨b95, 2, none⟩ (.int .i64 gb) (hs105.cellAt 0 rfl rfl) ?_
  refine zI (gb - 1) (wrap_i64 (by omega) (by omega)) ?_
  refine zC00 hs105 (within_spec (n_ := n_) (f_ := 0) (t_ := (gb - 1)) B _) fun w107 hs109 => ?_
  refine zE 1 (hK102 _ _ ?_)
  refine W.cond (decide (0 ≤ n_ ∧ n_ ≤ (gb - 1))) (by kernel_rfl) (fun h110 => ?_) (fun h110 => ?_)
  ·
   have h110p := of_decide_eq_true h110
   refine W.sr fun K111 hK111 => ?_
   refine zR 2 ?_
   refine zL ⟨b95, 1, none⟩ (.int .i64 8) (hs109.cellAt 0 rfl rfl) ?_
   refine zR 1 ?_
   refine zI (8 * n_) (wrap_i64 (by omega) (by omega)) ?_
   refine zI (((((264 + (208 * gw)) + 8) + 8) + (16 * gi)) + (8 * n_)) (wrap_i64 (by omega) (by omega)) ?_
   refine zE 1 (hK111 _ _ ?_)
   refine W.ret (ret_seq (ret_block (ret_seq (ret_seq (ret_block (ret_seq ?_))))))
   have hs112 := St.tk0 hs109
   refine ret_of (.int .i64 (((((264 + (208 * gw)) + 8) + 8) + (16 * gi)) + (8 * n_))) (by kernel_rfl) ⟨_, ⟨congrArg (Value.int .i64) (by first | contradiction | (simp only [placeOf, if_pos hm]; split <;> omega) | (simp only [placeOf, if_neg hm]; done) | (simp only [placeOf, if_pos hm]; omega)), rfl⟩, hs112⟩
  ·
   have h110p := of_decide_eq_false h110
   refine W.skip ?_
   refine hK101 _ _ ?_
   refine W.exit (exit_block (by decide) (exit_seq (exit_seq (exit_here ?_))))
   refine hK6 _ _ ?_
   refine W.sr fun K113 hK113 => ?_
   refine zE 1 (hK113 _ _ ?_)
   refine W.ret ?_
   have hs114 := St.tk0 hs109
   refine ret_of (.int .i64 (-1)) (by kernel_rfl) ⟨_, ⟨congrArg (Value.int .i64) (by first | contradiction | (simp only [placeOf, if_pos hm]; split <;> omega) | (simp only [placeOf, if_neg hm]; done) | (simp only [placeOf, if_pos hm]; omega)), rfl⟩, hs114⟩
 ·
  have h106p := of_decide_eq_false h106
  refine zS 28 h106 ?_
  refine zS 27 h106 ?_
  refine zE 6 (hK102 _ _ ?_)
  refine W.cond_false false (by kernel_rfl) rfl ?_
  refine W.skip ?_
  refine hK101 _ _ ?_
  refine W.exit (exit_block (by decide) (exit_seq (exit_seq (exit_here ?_))))
  refine hK6 _ _ ?_
  refine W.sr fun K115 hK115 => ?_
  refine zE 1 (hK115 _ _ ?_)
  refine W.ret ?_
  have hs116 := St.tk0 hs105
  refine ret_of (.int .i64 (-1)) (by kernel_rfl) ⟨_, ⟨congrArg (Value.int .i64) (by first | contradiction | (simp only [placeOf, if_pos hm]; split <;> omega) | (simp only [placeOf, if_neg hm]; done) | (simp only [placeOf, if_pos hm]; omega)), rfl⟩, hs116⟩

theorem place9_not {gw gi gb n_ : Int} (B : Nat) (w : World) (hm : ¬ May gw gi gb) : Spec Tryz.prog 91 #[(.agg #[(.int .i64 gw), (.int .i64 gi), (.int .i64 gb)]), (.int .u8 9), (.int .i64 n_)] B w [] (fun v H' => v = .int .i64 (placeOf 9 gw gi gb n_) ∧ H' = []) := by
 refine spec_Q Tryz.func91 rfl fun hs => ?_
 refine W.sr fun K1 hK1 => ?_
 refine zN [(.int .i64 gw), (.int .i64 gi), (.int .i64 gb)] 31 hs fun b4 w2 hs3 => ?_
 refine zE 1 (hK1 _ _ ?_)
 refine W.sr fun K5 hK5 => ?_
 refine zE 1 (hK5 _ _ ?_)
 refine W.seq fun K6 hK6 => ?_
 refine W.sr fun K7 hK7 => ?_
 refine ops_R (runs_loadAgg (ad := ⟨b4, 0, none⟩) (cs := [(.int .i64 gw), (.int .i64 gi), (.int .i64 gb)]) (by kernel_rfl) (cells_sub (hs3.heapAt 0 rfl) rfl)) ?_
 refine zC00 hs3 (rows_spec (gw := gw) (gi := gi) (gb := gb) B _) fun w8 hs10 => ?_
 refine zE 1 (hK7 _ _ ?_)
 refine W.block ?_
 refine W.loop_start ?_
 refine loopAt_round ?_
 refine W.sr fun K11 hK11 => ?_
 refine zE 1 (hK11 _ _ ?_)
 refine W.seq fun K12 hK12 => ?_
 refine W.cond_true true (by kernel_rfl) rfl ?_
 refine W.skip ?_
 refine hK12 _ _ ?_
 refine W.seq fun K13 hK13 => ?_
 refine W.block ?_
 refine W.sr fun K14 hK14 => ?_
 refine zR 1 ?_
 refine zN [(.int .u8 0), (.int .i64 0), (.int .i64 0)] 142 hs10 fun b17 w15 hs16 => ?_
 refine ops_store (off := 0) (cs := [(.int .u8 0), (.int .i64 0), (.int .i64 0)]) (vs := [(.int .u8 1), (.int .i64 8), (.int .i64 1)]) hs16 (by kernel_rfl) (by simp) rfl (fun w18 hs19 => ?_)
 have hs20 : St B w [] w18 [blk b17 (.cells [(.int .u8 1), (.int .i64 8), (.int .i64 1)].toArray 142 (0, 0)), blk b4 (.cells [(.int .i64 gw), (.int .i64 gi), (.int .i64 gb)].toArray 31 (0, 0))] := hs19
 refine zD (hK14 _ _ ?_)
 refine W.seq fun K21 hK21 => ?_
 refine W.sr fun K22 hK22 => ?_
 refine zR 1 ?_
 refine zL ⟨b17, 0, none⟩ (.int .u8 1) (hs20.cellAt 0 rfl rfl) ?_
 refine zE 2 (hK22 _ _ ?_)
 refine W.cond_true true (by kernel_rfl) rfl ?_
 refine W.sr fun K23 hK23 => ?_
 refine zR 2 ?_
 refine zL ⟨b17, 1, none⟩ (.int .i64 8) (hs20.cellAt 0 rfl rfl) ?_
 refine zR 1 ?_
 refine zL ⟨b17, 2, none⟩ (.int .i64 1) (hs20.cellAt 0 rfl rfl) ?_
 refine zE 3 (hK23 _ _ ?_)
 refine W.exit (exit_seq (exit_here ?_))
 refine hK13 _ _ ?_
 refine W.region ?_
 refine zE 2 ?_
 refine loopAt_next ?_
 refine loopAt_round ?_
 refine W.sr fun K24 hK24 => ?_
 refine zE 1 (hK24 _ _ ?_)
 refine W.seq fun K25 hK25 => ?_
 refine W.cond_true true (by kernel_rfl) rfl ?_
 refine W.skip ?_
 refine hK25 _ _ ?_
 refine W.seq fun K26 hK26 => ?_
 refine W.block ?_
 refine W.sr fun K27 hK27 => ?_
 refine zR 1 ?_
 refine zN [(.int .u8 0), (.int .i64 0), (.int .i64 0)] 142 hs20 fun b30 w28 hs29 => ?_
 refine ops_store (off := 0) (cs := [(.int .u8 0), (.int .i64 0), (.int .i64 0)]) (vs := [(.int .u8 2), (.int .i64 64), (.int .i64 4)]) hs29 (by kernel_rfl) (by simp) rfl (fun w31 hs32 => ?_)
 have hs33 : St B w [] w31 [blk b30 (.cells [(.int .u8 2), (.int .i64 64), (.int .i64 4)].toArray 142 (0, 0)), blk b17 (.cells [(.int .u8 1), (.int .i64 8), (.int .i64 1)].toArray 142 (0, 0)), blk b4 (.cells [(.int .i64 gw), (.int .i64 gi), (.int .i64 gb)].toArray 31 (0, 0))] := hs32
 refine zD (hK27 _ _ ?_)
 refine W.seq fun K34 hK34 => ?_
 refine W.sr fun K35 hK35 => ?_
 refine zR 1 ?_
 refine zL ⟨b30, 0, none⟩ (.int .u8 2) (hs33.cellAt 0 rfl rfl) ?_
 refine zE 2 (hK35 _ _ ?_)
 refine W.cond_true true (by kernel_rfl) rfl ?_
 refine W.sr fun K36 hK36 => ?_
 refine zR 2 ?_
 refine zL ⟨b30, 1, none⟩ (.int .i64 64) (hs33.cellAt 0 rfl rfl) ?_
 refine zR 1 ?_
 refine zL ⟨b30, 2, none⟩ (.int .i64 4) (hs33.cellAt 0 rfl rfl) ?_
 refine zE 3 (hK36 _ _ ?_)
 refine W.exit (exit_seq (exit_here ?_))
 refine hK26 _ _ ?_
 refine W.region ?_
 refine zE 2 ?_
 refine loopAt_next ?_
 refine loopAt_round ?_
 refine W.sr fun K37 hK37 => ?_
 refine zE 1 (hK37 _ _ ?_)
 refine W.seq fun K38 hK38 => ?_
 refine W.cond_true true (by kernel_rfl) rfl ?_
 refine W.skip ?_
 refine hK38 _ _ ?_
 refine W.seq fun K39 hK39 => ?_
 refine W.block ?_
 refine W.sr fun K40 hK40 => ?_
 refine zR 1 ?_
 refine zN [(.int .u8 0), (.int .i64 0), (.int .i64 0)] 142 hs33 fun b43 w41 hs42 => ?_
 refine ops_store (off := 0) (cs := [(.int .u8 0), (.int .i64 0), (.int .i64 0)]) (vs := [(.int .u8 5), (.int .i64 208), (.int .i64 gw)]) hs42 (by kernel_rfl) (by simp) rfl (fun w44 hs45 => ?_)
 have hs46 : St B w [] w44 [blk b43 (.cells [(.int .u8 5), (.int .i64 208), (.int .i64 gw)].toArray 142 (0, 0)), blk b30 (.cells [(.int .u8 2), (.int .i64 64), (.int .i64 4)].toArray 142 (0, 0)), blk b17 (.cells [(.int .u8 1), (.int .i64 8), (.int .i64 1)].toArray 142 (0, 0)), blk b4 (.cells [(.int .i64 gw), (.int .i64 gi), (.int .i64 gb)].toArray 31 (0, 0))] := hs45
 refine zD (hK40 _ _ ?_)
 refine W.seq fun K47 hK47 => ?_
 refine W.sr fun K48 hK48 => ?_
 refine zR 1 ?_
 refine zL ⟨b43, 0, none⟩ (.int .u8 5) (hs46.cellAt 0 rfl rfl) ?_
 refine zE 2 (hK48 _ _ ?_)
 refine W.cond_true true (by kernel_rfl) rfl ?_
 refine W.sr fun K49 hK49 => ?_
 refine zR 2 ?_
 refine zL ⟨b43, 1, none⟩ (.int .i64 208) (hs46.cellAt 0 rfl rfl) ?_
 refine zR 1 ?_
 refine zL ⟨b43, 2, none⟩ (.int .i64 gw) (hs46.cellAt 0 rfl rfl) ?_
 refine ops_val (v := .int .i64 (IntKind.i64.wrap (208 * gw))) (v' := .int .i64 (IntKind.i64.wrap (208 * gw))) (by kernel_rfl) rfl ?_
 refine ops_val (v := .int .i64 (IntKind.i64.wrap (264 + (IntKind.i64.wrap (208 * gw))))) (v' := .int .i64 (IntKind.i64.wrap (264 + (IntKind.i64.wrap (208 * gw))))) (by kernel_rfl) rfl ?_
 refine zE 1 (hK49 _ _ ?_)
 refine W.exit (exit_seq (exit_here ?_))
 refine hK39 _ _ ?_
 refine W.region ?_
 refine zE 2 ?_
 refine loopAt_next ?_
 refine loopAt_round ?_
 refine W.sr fun K50 hK50 => ?_
 refine zE 1 (hK50 _ _ ?_)
 refine W.seq fun K51 hK51 => ?_
 refine W.cond_true true (by kernel_rfl) rfl ?_
 refine W.skip ?_
 refine hK51 _ _ ?_
 refine W.seq fun K52 hK52 => ?_
 refine W.block ?_
 refine W.sr fun K53 hK53 => ?_
 refine zR 1 ?_
 refine zN [(.int .u8 0), (.int .i64 0), (.int .i64 0)] 142 hs46 fun b56 w54 hs55 => ?_
 refine ops_store (off := 0) (cs := [(.int .u8 0), (.int .i64 0), (.int .i64 0)]) (vs := [(.int .u8 6), (.int .i64 8), (.int .i64 1)]) hs55 (by kernel_rfl) (by simp) rfl (fun w57 hs58 => ?_)
 have hs59 : St B w [] w57 [blk b56 (.cells [(.int .u8 6), (.int .i64 8), (.int .i64 1)].toArray 142 (0, 0)), blk b43 (.cells [(.int .u8 5), (.int .i64 208), (.int .i64 gw)].toArray 142 (0, 0)), blk b30 (.cells [(.int .u8 2), (.int .i64 64), (.int .i64 4)].toArray 142 (0, 0)), blk b17 (.cells [(.int .u8 1), (.int .i64 8), (.int .i64 1)].toArray 142 (0, 0)), blk b4 (.cells [(.int .i64 gw), (.int .i64 gi), (.int .i64 gb)].toArray 31 (0, 0))] := hs58
 refine zD (hK53 _ _ ?_)
 refine W.seq fun K60 hK60 => ?_
 refine W.sr fun K61 hK61 => ?_
 refine zR 1 ?_
 refine zL ⟨b56, 0, none⟩ (.int .u8 6) (hs59.cellAt 0 rfl rfl) ?_
 refine zE 2 (hK61 _ _ ?_)
 refine W.cond_true true (by kernel_rfl) rfl ?_
 refine W.sr fun K62 hK62 => ?_
 refine zR 2 ?_
 refine zL ⟨b56, 1, none⟩ (.int .i64 8) (hs59.cellAt 0 rfl rfl) ?_
 refine zR 1 ?_
 refine zL ⟨b56, 2, none⟩ (.int .i64 1) (hs59.cellAt 0 rfl rfl) ?_
 refine zR 1 ?_
 refine ops_val (v := .int .i64 (IntKind.i64.wrap ((IntKind.i64.wrap (264 + (IntKind.i64.wrap (208 * gw)))) + 8))) (v' := .int .i64 (IntKind.i64.wrap ((IntKind.i64.wrap (264 + (IntKind.i64.wrap (208 * gw)))) + 8))) (by kernel_rfl) rfl ?_
 refine zE 1 (hK62 _ _ ?_)
 refine W.exit (exit_seq (exit_here ?_))
 refine hK52 _ _ ?_
 refine W.region ?_
 refine zE 2 ?_
 refine loopAt_next ?_
 refine loopAt_round ?_
 refine W.sr fun K63 hK63 => ?_
 refine zE 1 (hK63 _ _ ?_)
 refine W.seq fun K64 hK64 => ?_
 refine W.cond_true true (by kernel_rfl) rfl ?_
 refine W.skip ?_
 refine hK64 _ _ ?_
 refine W.seq fun K65 hK65 => ?_
 refine W.block ?_
 refine W.sr fun K66 hK66 => ?_
 refine zR 1 ?_
 refine zN [(.int .u8 0), (.int .i64 0), (.int .i64 0)] 142 hs59 fun b69 w67 hs68 => ?_
 refine ops_store (off := 0) (cs := [(.int .u8 0), (.int .i64 0), (.int .i64 0)]) (vs := [(.int .u8 7), (.int .i64 8), (.int .i64 1)]) hs68 (by kernel_rfl) (by simp) rfl (fun w70 hs71 => ?_)
 have hs72 : St B w [] w70 [blk b69 (.cells [(.int .u8 7), (.int .i64 8), (.int .i64 1)].toArray 142 (0, 0)), blk b56 (.cells [(.int .u8 6), (.int .i64 8), (.int .i64 1)].toArray 142 (0, 0)), blk b43 (.cells [(.int .u8 5), (.int .i64 208), (.int .i64 gw)].toArray 142 (0, 0)), blk b30 (.cells [(.int .u8 2), (.int .i64 64), (.int .i64 4)].toArray 142 (0, 0)), blk b17 (.cells [(.int .u8 1), (.int .i64 8), (.int .i64 1)].toArray 142 (0, 0)), blk b4 (.cells [(.int .i64 gw), (.int .i64 gi), (.int .i64 gb)].toArray 31 (0, 0))] := hs71
 refine zD (hK66 _ _ ?_)
 refine W.seq fun K73 hK73 => ?_
 refine W.sr fun K74 hK74 => ?_
 refine zR 1 ?_
 refine zL ⟨b69, 0, none⟩ (.int .u8 7) (hs72.cellAt 0 rfl rfl) ?_
 refine zE 2 (hK74 _ _ ?_)
 refine W.cond_true true (by kernel_rfl) rfl ?_
 refine W.sr fun K75 hK75 => ?_
 refine zR 2 ?_
 refine zL ⟨b69, 1, none⟩ (.int .i64 8) (hs72.cellAt 0 rfl rfl) ?_
 refine zR 1 ?_
 refine zL ⟨b69, 2, none⟩ (.int .i64 1) (hs72.cellAt 0 rfl rfl) ?_
 refine zR 1 ?_
 refine ops_val (v := .int .i64 (IntKind.i64.wrap ((IntKind.i64.wrap ((IntKind.i64.wrap (264 + (IntKind.i64.wrap (208 * gw)))) + 8)) + 8))) (v' := .int .i64 (IntKind.i64.wrap ((IntKind.i64.wrap ((IntKind.i64.wrap (264 + (IntKind.i64.wrap (208 * gw)))) + 8)) + 8))) (by kernel_rfl) rfl ?_
 refine zE 1 (hK75 _ _ ?_)
 refine W.exit (exit_seq (exit_here ?_))
 refine hK65 _ _ ?_
 refine W.region ?_
 refine zE 2 ?_
 refine loopAt_next ?_
 refine loopAt_round ?_
 refine W.sr fun K76 hK76 => ?_
 refine zE 1 (hK76 _ _ ?_)
 refine W.seq fun K77 hK77 => ?_
 refine W.cond_true true (by kernel_rfl) rfl ?_
 refine W.skip ?_
 refine hK77 _ _ ?_
 refine W.seq fun K78 hK78 => ?_
 refine W.block ?_
 refine W.sr fun K79 hK79 => ?_
 refine zR 1 ?_
 refine zN [(.int .u8 0), (.int .i64 0), (.int .i64 0)] 142 hs72 fun b82 w80 hs81 => ?_
 refine ops_store (off := 0) (cs := [(.int .u8 0), (.int .i64 0), (.int .i64 0)]) (vs := [(.int .u8 8), (.int .i64 16), (.int .i64 gi)]) hs81 (by kernel_rfl) (by simp) rfl (fun w83 hs84 => ?_)
 have hs85 : St B w [] w83 [blk b82 (.cells [(.int .u8 8), (.int .i64 16), (.int .i64 gi)].toArray 142 (0, 0)), blk b69 (.cells [(.int .u8 7), (.int .i64 8), (.int .i64 1)].toArray 142 (0, 0)), blk b56 (.cells [(.int .u8 6), (.int .i64 8), (.int .i64 1)].toArray 142 (0, 0)), blk b43 (.cells [(.int .u8 5), (.int .i64 208), (.int .i64 gw)].toArray 142 (0, 0)), blk b30 (.cells [(.int .u8 2), (.int .i64 64), (.int .i64 4)].toArray 142 (0, 0)), blk b17 (.cells [(.int .u8 1), (.int .i64 8), (.int .i64 1)].toArray 142 (0, 0)), blk b4 (.cells [(.int .i64 gw), (.int .i64 gi), (.int .i64 gb)].toArray 31 (0, 0))] := hs84
 refine zD (hK79 _ _ ?_)
 refine W.seq fun K86 hK86 => ?_
 refine W.sr fun K87 hK87 => ?_
 refine zR 1 ?_
 refine zL ⟨b82, 0, none⟩ (.int .u8 8) (hs85.cellAt 0 rfl rfl) ?_
 refine zE 2 (hK87 _ _ ?_)
 refine W.cond_true true (by kernel_rfl) rfl ?_
 refine W.sr fun K88 hK88 => ?_
 refine zR 2 ?_
 refine zL ⟨b82, 1, none⟩ (.int .i64 16) (hs85.cellAt 0 rfl rfl) ?_
 refine zR 1 ?_
 refine zL ⟨b82, 2, none⟩ (.int .i64 gi) (hs85.cellAt 0 rfl rfl) ?_
 refine ops_val (v := .int .i64 (IntKind.i64.wrap (16 * gi))) (v' := .int .i64 (IntKind.i64.wrap (16 * gi))) (by kernel_rfl) rfl ?_
 refine ops_val (v := .int .i64 (IntKind.i64.wrap ((IntKind.i64.wrap ((IntKind.i64.wrap ((IntKind.i64.wrap (264 + (IntKind.i64.wrap (208 * gw)))) + 8)) + 8)) + (IntKind.i64.wrap (16 * gi))))) (v' := .int .i64 (IntKind.i64.wrap ((IntKind.i64.wrap ((IntKind.i64.wrap ((IntKind.i64.wrap (264 + (IntKind.i64.wrap (208 * gw)))) + 8)) + 8)) + (IntKind.i64.wrap (16 * gi))))) (by kernel_rfl) rfl ?_
 refine zE 1 (hK88 _ _ ?_)
 refine W.exit (exit_seq (exit_here ?_))
 refine hK78 _ _ ?_
 refine W.region ?_
 refine zE 2 ?_
 refine loopAt_next ?_
 refine loopAt_round ?_
 refine W.sr fun K89 hK89 => ?_
 refine zE 1 (hK89 _ _ ?_)
 refine W.seq fun K90 hK90 => ?_
 refine W.cond_true true (by kernel_rfl) rfl ?_
 refine W.skip ?_
 refine hK90 _ _ ?_
 refine W.seq fun K91 hK91 => ?_
 refine W.block ?_
 refine W.sr fun K92 hK92 => ?_
 refine zR 1 ?_
 refine zN [(.int .u8 0), (.int .i64 0), (.int .i64 0)] 142 hs85 fun b95 w93 hs94 => ?_
 refine ops_store (off := 0) (cs := [(.int .u8 0), (.int .i64 0), (.int .i64 0)]) (vs := [(.int .u8 9), (.int .i64 8), (.int .i64 gb)]) hs94 (by kernel_rfl) (by simp) rfl (fun w96 hs97 => ?_)
 have hs98 : St B w [] w96 [blk b95 (.cells [(.int .u8 9), (.int .i64 8), (.int .i64 gb)].toArray 142 (0, 0)), blk b82 (.cells [(.int .u8 8), (.int .i64 16), (.int .i64 gi)].toArray 142 (0, 0)), blk b69 (.cells [(.int .u8 7), (.int .i64 8), (.int .i64 1)].toArray 142 (0, 0)), blk b56 (.cells [(.int .u8 6), (.int .i64 8), (.int .i64 1)].toArray 142 (0, 0)), blk b43 (.cells [(.int .u8 5), (.int .i64 208), (.int .i64 gw)].toArray 142 (0, 0)), blk b30 (.cells [(.int .u8 2), (.int .i64 64), (.int .i64 4)].toArray 142 (0, 0)), blk b17 (.cells [(.int .u8 1), (.int .i64 8), (.int .i64 1)].toArray 142 (0, 0)), blk b4 (.cells [(.int .i64 gw), (.int .i64 gi), (.int .i64 gb)].toArray 31 (0, 0))] := hs97
 refine zD (hK92 _ _ ?_)
 refine W.seq fun K99 hK99 => ?_
 refine W.sr fun K100 hK100 => ?_
 refine zR 1 ?_
 refine zL ⟨b95, 0, none⟩ (.int .u8 9) (hs98.cellAt 0 rfl rfl) ?_
 refine zE 2 (hK100 _ _ ?_)
 refine W.cond_false false (by kernel_rfl) rfl ?_
 refine W.skip ?_
 refine hK99 _ _ ?_
 refine W.seq fun K101 hK101 => ?_
 refine W.sr fun K102 hK102 => ?_
 refine ops_R (runs_loadAgg (ad := ⟨b4, 0, none⟩) (cs := [(.int .i64 gw), (.int .i64 gi), (.int .i64 gb)]) (by kernel_rfl) (cells_sub (hs98.heapAt 7 rfl) rfl)) ?_
 refine zC00 hs98 (may_spec (gw := gw) (gi := gi) (gb := gb) B _) fun w103 hs105 => ?_
 refine zR 1 ?_
 rcases Bool.eq_false_or_eq_true (decide (May gw gi gb)) with h106 | h106
 ·
  have h106p := of_decide_eq_true h106
  refine zS 28 h106 ?_
  refine zS 27 h106 ?_
  refine zR 2 ?_
  refine zL ⟨b95, 2, none⟩ (.int .i64 gb) (hs105.cellAt 0 rfl rfl) ?_
  refine ops_val (v := .int .i64 (IntKind.i64.wrap (gb - 1))) (v' := .int .i64 (IntKind.i64.wrap (gb - 1))) (by kernel_rfl) rfl ?_
  refine zC00 hs105 (within_spec (n_ := n_) (f_ := 0) (t_ := (IntKind.i64.wrap (gb - 1))) B _) fun w107 hs109 => ?_
  refine zE 1 (hK102 _ _ ?_)
  refine W.cond (decide (0 ≤ n_ ∧ n_ ≤ (IntKind.i64.wrap (gb - 1)))) (by kernel_rfl) (fun h110 => ?_) (fun h110 => ?_)
  ·
   have h110p := of_decide_eq_true h110
   refine W.sr fun K111 hK111 => ?_
   refine zR 2 ?_
   refine zL ⟨b95, 1, none⟩ (.int .i64 8) (hs109.cellAt 0 rfl rfl) ?_
   refine zR 1 ?_
   refine ops_val (v := .int .i64 (IntKind.i64.wrap (8 * n_))) (v' := .int .i64 (IntKind.i64.wrap (8 * n_))) (by kernel_rfl) rfl ?_
   refine ops_val (v := .int .i64 (IntKind.i64.wrap ((IntKind.i64.wrap ((IntKind.i64.wrap ((IntKind.i64.wrap ((IntKind.i64.wrap (264 + (IntKind.i64.wrap (208 * gw)))) + 8)) + 8)) + (IntKind.i64.wrap (16 * gi)))) + (IntKind.i64.wrap (8 * n_))))) (v' := .int .i64 (IntKind.i64.wrap ((IntKind.i64.wrap ((IntKind.i64.wrap ((IntKind.i64.wrap ((IntKind.i64.wrap (264 + (IntKind.i64.wrap (208 * gw)))) + 8)) + 8)) + (IntKind.i64.wrap (16 * gi)))) + (IntKind.i64.wrap (8 * n_))))) (by kernel_rfl) rfl ?_
   refine zE 1 (hK111 _ _ ?_)
   refine W.ret (ret_seq (ret_block (ret_seq (ret_seq (ret_block (ret_seq ?_))))))
   have hs112 := St.tk0 hs109
   refine ret_of (.int .i64 (IntKind.i64.wrap ((IntKind.i64.wrap ((IntKind.i64.wrap ((IntKind.i64.wrap ((IntKind.i64.wrap (264 + (IntKind.i64.wrap (208 * gw)))) + 8)) + 8)) + (IntKind.i64.wrap (16 * gi)))) + (IntKind.i64.wrap (8 * n_))))) (by kernel_rfl) ⟨_, ⟨congrArg (Value.int .i64) (by first | contradiction | (simp only [placeOf, if_pos hm]; split <;> omega) | (simp only [placeOf, if_neg hm]; done) | (simp only [placeOf, if_pos hm]; omega)), rfl⟩, hs112⟩
  ·
   have h110p := of_decide_eq_false h110
   refine W.skip ?_
   refine hK101 _ _ ?_
   refine W.exit (exit_block (by decide) (exit_seq (exit_seq (exit_here ?_))))
   refine hK6 _ _ ?_
   refine W.sr fun K113 hK113 => ?_
   refine zE 1 (hK113 _ _ ?_)
   refine W.ret ?_
   have hs114 := St.tk0 hs109
   refine ret_of (.int .i64 (-1)) (by kernel_rfl) ⟨_, ⟨congrArg (Value.int .i64) (by first | contradiction | (simp only [placeOf, if_pos hm]; split <;> omega) | (simp only [placeOf, if_neg hm]; done) | (simp only [placeOf, if_pos hm]; omega)), rfl⟩, hs114⟩
 ·
  have h106p := of_decide_eq_false h106
  refine zS 28 h106 ?_
  refine zS 27 h106 ?_
  refine zE 6 (hK102 _ _ ?_)
  refine W.cond_false false (by kernel_rfl) rfl ?_
  refine W.skip ?_
  refine hK101 _ _ ?_
  refine W.exit (exit_block (by decide) (exit_seq (exit_seq (exit_here ?_))))
  refine hK6 _ _ ?_
  refine W.sr fun K115 hK115 => ?_
  refine zE 1 (hK115 _ _ ?_)
  refine W.ret ?_
  have hs116 := St.tk0 hs105
  refine ret_of (.int .i64 (-1)) (by kernel_rfl) ⟨_, ⟨congrArg (Value.int .i64) (by first | contradiction | (simp only [placeOf, if_pos hm]; split <;> omega) | (simp only [placeOf, if_neg hm]; done) | (simp only [placeOf, if_pos hm]; omega)), rfl⟩, hs116⟩

theorem place9_spec {gw gi gb n_ : Int} (B : Nat) (w : World) : Spec Tryz.prog 91 #[(.agg #[(.int .i64 gw), (.int .i64 gi), (.int .i64 gb)]), (.int .u8 9), (.int .i64 n_)] B w [] (fun v H' => v = .int .i64 (placeOf 9 gw gi gb n_) ∧ H' = []) := by
 by_cases hm : May gw gi gb
 · exact place9_may B w hm
 · exact place9_not B w hm

theorem inodeat_spec {gw gi gb n_ : Int} (B : Nat) (w : World) : Spec Tryz.prog 122 #[(.agg #[(.int .i64 gw), (.int .i64 gi), (.int .i64 gb)]), (.int .i64 n_)] B w [] (fun v H' => v = .int .i64 (placeOf 8 gw gi gb n_) ∧ H' = []) := by
 refine spec_Q Tryz.func122 rfl fun hs => ?_
 refine W.sr fun K1 hK1 => ?_
 refine zN [(.int .i64 gw), (.int .i64 gi), (.int .i64 gb)] 31 hs fun b4 w2 hs3 => ?_
 refine zE 1 (hK1 _ _ ?_)
 refine W.sr fun K5 hK5 => ?_
 refine ops_R (runs_loadAgg (ad := ⟨b4, 0, none⟩) (cs := [(.int .i64 gw), (.int .i64 gi), (.int .i64 gb)]) (by kernel_rfl) (cells_sub (hs3.heapAt 0 rfl) rfl)) ?_
 refine zR 1 ?_
 refine zC00 hs3 (place8_spec (gw := gw) (gi := gi) (gb := gb) (n_ := n_) B _) fun w6 hs8 => ?_
 refine zE 1 (hK5 _ _ ?_)
 refine W.ret ?_
 have hs9 := St.tk0 hs8
 refine ret_of (.int .i64 (placeOf 8 gw gi gb n_)) (by kernel_rfl) ⟨_, ⟨rfl, rfl⟩, hs9⟩

theorem areas_spec  (B : Nat) (w : World) : Spec Tryz.prog 86 #[] B w [] (fun v H' => v = .int .i64 264 ∧ H' = []) := by
 refine spec_Q Tryz.func86 rfl fun hs => ?_
 refine W.sr fun K1 hK1 => ?_
 refine zE 1 (hK1 _ _ ?_)
 refine W.sr fun K2 hK2 => ?_
 refine zE 1 (hK2 _ _ ?_)
 refine W.ret ?_
 refine ret_of (.int .i64 264) (by kernel_rfl) ⟨_, ⟨rfl, rfl⟩, hs⟩

theorem maps_spec {gw gi gb : Int} (B : Nat) (w : World) (hm : May gw gi gb) : Spec Tryz.prog 53 #[(.agg #[(.int .i64 gw), (.int .i64 gi), (.int .i64 gb)])] B w [] (fun v H' => v = .int .i64 (264 + 208 * gw) ∧ H' = []) := by
 refine spec_Q Tryz.func53 rfl fun hs => ?_
 have hm_ : (1 ≤ gw ∧ gw ≤ 4) ∧ (2 ≤ gi ∧ gi ≤ 64) ∧ (2 ≤ gb ∧ gb ≤ 512) := hm
 refine W.sr fun K1 hK1 => ?_
 refine zN [(.int .i64 gw), (.int .i64 gi), (.int .i64 gb)] 42 hs fun b4 w2 hs3 => ?_
 refine zE 1 (hK1 _ _ ?_)
 refine W.seq fun K5 hK5 => ?_
 have hs6 := hs3.drew
 refine W.regionD [(0, 0), (0, 0), (2, 2), (4, 4), (9, 9), (31, 16)] (fun w_ => St B w [] w_ [blk b4 (.cells [(.int .i64 gw), (.int .i64 gi), (.int .i64 gb)].toArray 42 (0, 0))]) (by kernel_rfl) hs6 ?_
 refine any_val (v := (.pointer (some ⟨b4, 0, none⟩))) (v' := (.pointer (some ⟨b4, 0, none⟩))) 1 (by kernel_rfl) (fun _ => by kernel_rfl) rfl hs6 ?_
 refine any_R 2 (by kernel_rfl) (fun _ hS_ => runs_load (ad := ⟨b4, 0, none⟩) (v := (.int .i64 gw)) (by kernel_rfl) (hS_.cellAt 0 rfl rfl)) hs6 ?_
 refine any_val (v := .int .i64 (IntKind.i64.wrap (208 * gw))) (v' := .int .i64 (208 * gw)) 3 (by kernel_rfl) (fun _ => by kernel_rfl) (congrArg (Value.int .i64) (wrap_i64 (by omega) (by omega))) hs6 ?_
 refine any_step 0 (by kernel_rfl) (by kernel_rfl) ?_
 refine zC00 hs6 (areas_spec B _) fun w7 hs9 => ?_
 refine ops_done (by kernel_rfl) ⟨hs9, ?_⟩
 refine any_val (v := .int .i64 (IntKind.i64.wrap (264 + (208 * gw)))) (v' := .int .i64 (264 + (208 * gw))) 4 (by kernel_rfl) (fun _ => by kernel_rfl) (congrArg (Value.int .i64) (wrap_i64 (by omega) (by omega))) hs9 ?_
 refine any_val (v := (.int .i64 (264 + (208 * gw)))) (v' := (.int .i64 (264 + (208 * gw)))) 5 (by kernel_rfl) (fun _ => by kernel_rfl) rfl hs9 ?_
 refine any_done (by kernel_rfl) ?_
 refine hK5 _ _ ?_
 refine W.ret ?_
 have hs10 := St.tk0 hs9
 refine ret_of (.int .i64 (264 + (208 * gw))) (by kernel_rfl) ⟨_, ⟨rfl, rfl⟩, hs10⟩

theorem rwords_spec {gw gi gb : Int} (B : Nat) (w : World) : Spec Tryz.prog 50 #[(.agg #[(.int .i64 gw), (.int .i64 gi), (.int .i64 gb)])] B w [] (fun v H' => v = .int .i64 (wordsOf gw gi gb) ∧ H' = []) := by
 refine spec_Q Tryz.func50 rfl fun hs => ?_
 refine W.sr fun K1 hK1 => ?_
 refine zN [(.int .i64 gw), (.int .i64 gi), (.int .i64 gb)] 42 hs fun b4 w2 hs3 => ?_
 refine zE 1 (hK1 _ _ ?_)
 refine W.seq fun K5 hK5 => ?_
 refine W.sr fun K6 hK6 => ?_
 refine ops_R (runs_loadAgg (ad := ⟨b4, 0, none⟩) (cs := [(.int .i64 gw), (.int .i64 gi), (.int .i64 gb)]) (by kernel_rfl) (cells_sub (hs3.heapAt 0 rfl) rfl)) ?_
 refine zC00 hs3 (rmay_spec (gw := gw) (gi := gi) (gb := gb) B _) fun w7 hs9 => ?_
 refine zE 1 (hK6 _ _ ?_)
 refine W.cond (!(decide (May gw gi gb))) (by kernel_rfl) (fun h10 => ?_) (fun h10 => ?_)
 ·
  have h10p : ¬ (May gw gi gb) := of_decide_eq_false (bnot_true h10)
  have hm : ¬ May gw gi gb := h10p
  refine W.sr fun K11 hK11 => ?_
  refine zE 1 (hK11 _ _ ?_)
  refine W.ret (ret_seq ?_)
  have hs12 := St.tk0 hs9
  refine ret_of (.int .i64 0) (by kernel_rfl) ⟨_, ⟨congrArg (Value.int .i64) (by first | contradiction | (simp only [wordsOf, if_pos hm]; omega) | (simp only [wordsOf, if_neg hm]; done)), rfl⟩, hs12⟩
 ·
  have h10p : May gw gi gb := of_decide_eq_true (bnot_false h10)
  have hm : May gw gi gb := h10p
  have hm_ : (1 ≤ gw ∧ gw ≤ 4) ∧ (2 ≤ gi ∧ gi ≤ 64) ∧ (2 ≤ gb ∧ gb ≤ 512) := hm
  refine W.skip ?_
  refine hK5 _ _ ?_
  refine W.seq fun K13 hK13 => ?_
  have hs14 := hs9.drew
  refine W.regionD [(0, 0), (1, 1), (2, 2), (0, 0), (8, 8), (16, 16), (36, 36), (0, 0), (128, 128), (256, 256), (576, 576), (2047, 1024)] (fun w_ => St B w [] w_ [blk b4 (.cells [(.int .i64 gw), (.int .i64 gi), (.int .i64 gb)].toArray 42 (0, 0))]) (by kernel_rfl) hs14 ?_
  refine any_R 0 (by kernel_rfl) (fun _ hS_ => runs_loadAgg (ad := ⟨b4, 0, none⟩) (cs := [(.int .i64 gw), (.int .i64 gi), (.int .i64 gb)]) (by kernel_rfl) (cells_sub (hS_.heapAt 0 rfl) rfl)) hs14 ?_
  refine any_val (v := (.pointer (some ⟨b4, 1, none⟩))) (v' := (.pointer (some ⟨b4, 1, none⟩))) 3 (by kernel_rfl) (fun _ => by kernel_rfl) rfl hs14 ?_
  refine any_R 4 (by kernel_rfl) (fun _ hS_ => runs_load (ad := ⟨b4, 1, none⟩) (v := (.int .i64 gi)) (by kernel_rfl) (hS_.cellAt 0 rfl rfl)) hs14 ?_
  refine any_val (v := .int .i64 (IntKind.i64.wrap (16 * gi))) (v' := .int .i64 (16 * gi)) 5 (by kernel_rfl) (fun _ => by kernel_rfl) (congrArg (Value.int .i64) (wrap_i64 (by omega) (by omega))) hs14 ?_
  refine any_val (v := (.pointer (some ⟨b4, 2, none⟩))) (v' := (.pointer (some ⟨b4, 2, none⟩))) 7 (by kernel_rfl) (fun _ => by kernel_rfl) rfl hs14 ?_
  refine any_R 8 (by kernel_rfl) (fun _ hS_ => runs_load (ad := ⟨b4, 2, none⟩) (v := (.int .i64 gb)) (by kernel_rfl) (hS_.cellAt 0 rfl rfl)) hs14 ?_
  refine any_val (v := .int .i64 (IntKind.i64.wrap (8 * gb))) (v' := .int .i64 (8 * gb)) 9 (by kernel_rfl) (fun _ => by kernel_rfl) (congrArg (Value.int .i64) (wrap_i64 (by omega) (by omega))) hs14 ?_
  refine any_step 1 (by kernel_rfl) (by kernel_rfl) ?_
  refine zC00 hs14 (maps_spec (hm := hm) (gw := gw) (gi := gi) (gb := gb) B _) fun w15 hs17 => ?_
  refine ops_done (by kernel_rfl) ⟨hs17, ?_⟩
  refine any_val (v := .int .i64 (IntKind.i64.wrap ((264 + 208 * gw) + 16))) (v' := .int .i64 ((264 + 208 * gw) + 16)) 2 (by kernel_rfl) (fun _ => by kernel_rfl) (congrArg (Value.int .i64) (wrap_i64 (by omega) (by omega))) hs17 ?_
  refine any_val (v := .int .i64 (IntKind.i64.wrap (((264 + 208 * gw) + 16) + (16 * gi)))) (v' := .int .i64 (((264 + 208 * gw) + 16) + (16 * gi))) 6 (by kernel_rfl) (fun _ => by kernel_rfl) (congrArg (Value.int .i64) (wrap_i64 (by omega) (by omega))) hs17 ?_
  refine any_val (v := .int .i64 (IntKind.i64.wrap ((((264 + 208 * gw) + 16) + (16 * gi)) + (8 * gb)))) (v' := .int .i64 ((((264 + 208 * gw) + 16) + (16 * gi)) + (8 * gb))) 10 (by kernel_rfl) (fun _ => by kernel_rfl) (congrArg (Value.int .i64) (wrap_i64 (by omega) (by omega))) hs17 ?_
  refine any_val (v := (.int .i64 ((((264 + 208 * gw) + 16) + (16 * gi)) + (8 * gb)))) (v' := (.int .i64 ((((264 + 208 * gw) + 16) + (16 * gi)) + (8 * gb)))) 11 (by kernel_rfl) (fun _ => by kernel_rfl) rfl hs17 ?_
  refine any_done (by kernel_rfl) ?_
  refine hK13 _ _ ?_
  refine W.ret ?_
  have hs18 := St.tk0 hs17
  refine ret_of (.int .i64 ((((264 + 208 * gw) + 16) + (16 * gi)) + (8 * gb))) (by kernel_rfl) ⟨_, ⟨congrArg (Value.int .i64) (by first | contradiction | (simp only [wordsOf, if_pos hm]; omega) | (simp only [wordsOf, if_neg hm]; done)), rfl⟩, hs18⟩

theorem rmapat_spec {gw gi gb : Int} (B : Nat) (w : World) : Spec Tryz.prog 51 #[(.agg #[(.int .i64 gw), (.int .i64 gi), (.int .i64 gb)])] B w [] (fun v H' => v = .int .i64 (placeOf 6 gw gi gb 0) ∧ H' = []) := by
 refine spec_Q Tryz.func51 rfl fun hs => ?_
 refine W.sr fun K1 hK1 => ?_
 refine zN [(.int .i64 gw), (.int .i64 gi), (.int .i64 gb)] 42 hs fun b4 w2 hs3 => ?_
 refine zE 1 (hK1 _ _ ?_)
 refine W.seq fun K5 hK5 => ?_
 refine W.sr fun K6 hK6 => ?_
 refine ops_R (runs_loadAgg (ad := ⟨b4, 0, none⟩) (cs := [(.int .i64 gw), (.int .i64 gi), (.int .i64 gb)]) (by kernel_rfl) (cells_sub (hs3.heapAt 0 rfl) rfl)) ?_
 refine zC00 hs3 (rmay_spec (gw := gw) (gi := gi) (gb := gb) B _) fun w7 hs9 => ?_
 refine zE 1 (hK6 _ _ ?_)
 refine W.cond (!(decide (May gw gi gb))) (by kernel_rfl) (fun h10 => ?_) (fun h10 => ?_)
 ·
  have h10p : ¬ (May gw gi gb) := of_decide_eq_false (bnot_true h10)
  have hm : ¬ May gw gi gb := h10p
  refine W.sr fun K11 hK11 => ?_
  refine zE 1 (hK11 _ _ ?_)
  refine W.ret (ret_seq ?_)
  have hs12 := St.tk0 hs9
  refine ret_of (.int .i64 (-1)) (by kernel_rfl) ⟨_, ⟨congrArg (Value.int .i64) (by first | contradiction | (simp only [placeOf, if_pos hm]; split <;> omega) | (simp only [placeOf, if_neg hm]; done) | (simp only [placeOf, if_pos hm]; omega)), rfl⟩, hs12⟩
 ·
  have h10p : May gw gi gb := of_decide_eq_true (bnot_false h10)
  have hm : May gw gi gb := h10p
  have hm_ : (1 ≤ gw ∧ gw ≤ 4) ∧ (2 ≤ gi ∧ gi ≤ 64) ∧ (2 ≤ gb ∧ gb ≤ 512) := hm
  refine W.skip ?_
  refine hK5 _ _ ?_
  refine W.sr fun K13 hK13 => ?_
  refine ops_R (runs_loadAgg (ad := ⟨b4, 0, none⟩) (cs := [(.int .i64 gw), (.int .i64 gi), (.int .i64 gb)]) (by kernel_rfl) (cells_sub (hs9.heapAt 0 rfl) rfl)) ?_
  refine zC00 hs9 (maps_spec (hm := hm) (gw := gw) (gi := gi) (gb := gb) B _) fun w14 hs16 => ?_
  refine zE 1 (hK13 _ _ ?_)
  refine W.ret ?_
  have hs17 := St.tk0 hs16
  refine ret_of (.int .i64 (264 + 208 * gw)) (by kernel_rfl) ⟨_, ⟨congrArg (Value.int .i64) (by first | contradiction | (simp only [placeOf, if_pos hm]; split <;> omega) | (simp only [placeOf, if_neg hm]; done) | (simp only [placeOf, if_pos hm]; omega)), rfl⟩, hs17⟩

theorem rbmapat_spec {gw gi gb : Int} (B : Nat) (w : World) : Spec Tryz.prog 52 #[(.agg #[(.int .i64 gw), (.int .i64 gi), (.int .i64 gb)])] B w [] (fun v H' => v = .int .i64 (placeOf 7 gw gi gb 0) ∧ H' = []) := by
 refine spec_Q Tryz.func52 rfl fun hs => ?_
 refine W.sr fun K1 hK1 => ?_
 refine zN [(.int .i64 gw), (.int .i64 gi), (.int .i64 gb)] 42 hs fun b4 w2 hs3 => ?_
 refine zE 1 (hK1 _ _ ?_)
 refine W.seq fun K5 hK5 => ?_
 refine W.sr fun K6 hK6 => ?_
 refine ops_R (runs_loadAgg (ad := ⟨b4, 0, none⟩) (cs := [(.int .i64 gw), (.int .i64 gi), (.int .i64 gb)]) (by kernel_rfl) (cells_sub (hs3.heapAt 0 rfl) rfl)) ?_
 refine zC00 hs3 (rmay_spec (gw := gw) (gi := gi) (gb := gb) B _) fun w7 hs9 => ?_
 refine zE 1 (hK6 _ _ ?_)
 refine W.cond (!(decide (May gw gi gb))) (by kernel_rfl) (fun h10 => ?_) (fun h10 => ?_)
 ·
  have h10p : ¬ (May gw gi gb) := of_decide_eq_false (bnot_true h10)
  have hm : ¬ May gw gi gb := h10p
  refine W.sr fun K11 hK11 => ?_
  refine zE 1 (hK11 _ _ ?_)
  refine W.ret (ret_seq ?_)
  have hs12 := St.tk0 hs9
  refine ret_of (.int .i64 (-1)) (by kernel_rfl) ⟨_, ⟨congrArg (Value.int .i64) (by first | contradiction | (simp only [placeOf, if_pos hm]; split <;> omega) | (simp only [placeOf, if_neg hm]; done) | (simp only [placeOf, if_pos hm]; omega)), rfl⟩, hs12⟩
 ·
  have h10p : May gw gi gb := of_decide_eq_true (bnot_false h10)
  have hm : May gw gi gb := h10p
  have hm_ : (1 ≤ gw ∧ gw ≤ 4) ∧ (2 ≤ gi ∧ gi ≤ 64) ∧ (2 ≤ gb ∧ gb ≤ 512) := hm
  refine W.skip ?_
  refine hK5 _ _ ?_
  refine W.sr fun K13 hK13 => ?_
  refine ops_R (runs_loadAgg (ad := ⟨b4, 0, none⟩) (cs := [(.int .i64 gw), (.int .i64 gi), (.int .i64 gb)]) (by kernel_rfl) (cells_sub (hs9.heapAt 0 rfl) rfl)) ?_
  refine zC00 hs9 (maps_spec (hm := hm) (gw := gw) (gi := gi) (gb := gb) B _) fun w14 hs16 => ?_
  refine zI ((264 + 208 * gw) + 8) (wrap_i64 (by omega) (by omega)) ?_
  refine zE 1 (hK13 _ _ ?_)
  refine W.ret ?_
  have hs17 := St.tk0 hs16
  refine ret_of (.int .i64 ((264 + 208 * gw) + 8)) (by kernel_rfl) ⟨_, ⟨congrArg (Value.int .i64) (by first | contradiction | (simp only [placeOf, if_pos hm]; split <;> omega) | (simp only [placeOf, if_neg hm]; done) | (simp only [placeOf, if_pos hm]; omega)), rfl⟩, hs17⟩

theorem rinodeat_spec {gw gi gb n_ : Int} (B : Nat) (w : World) : Spec Tryz.prog 17 #[(.agg #[(.int .i64 gw), (.int .i64 gi), (.int .i64 gb)]), (.int .i64 n_)] B w [] (fun v H' => v = .int .i64 (placeOf 8 gw gi gb n_) ∧ H' = []) := by
 refine spec_Q Tryz.func17 rfl fun hs => ?_
 refine W.sr fun K1 hK1 => ?_
 refine zN [(.int .i64 gw), (.int .i64 gi), (.int .i64 gb)] 42 hs fun b4 w2 hs3 => ?_
 refine zE 1 (hK1 _ _ ?_)
 refine W.seq fun K5 hK5 => ?_
 refine W.sr fun K6 hK6 => ?_
 refine ops_R (runs_loadAgg (ad := ⟨b4, 0, none⟩) (cs := [(.int .i64 gw), (.int .i64 gi), (.int .i64 gb)]) (by kernel_rfl) (cells_sub (hs3.heapAt 0 rfl) rfl)) ?_
 refine zC00 hs3 (rmay_spec (gw := gw) (gi := gi) (gb := gb) B _) fun w7 hs9 => ?_
 refine zR 2 ?_
 rcases Bool.eq_false_or_eq_true (!(decide (May gw gi gb))) with h10 | h10
 ·
  have h10p : ¬ (May gw gi gb) := of_decide_eq_false (bnot_true h10)
  refine zS 8 h10 ?_
  refine zS 7 h10 ?_
  refine zE 9 (hK6 _ _ ?_)
  refine W.cond_true true (by kernel_rfl) rfl ?_
  refine W.sr fun K11 hK11 => ?_
  refine zE 1 (hK11 _ _ ?_)
  refine W.ret (ret_seq ?_)
  have hs12 := St.tk0 hs9
  refine ret_of (.int .i64 (-1)) (by kernel_rfl) ⟨_, ⟨congrArg (Value.int .i64) (by by_cases hm : May gw gi gb <;> first | contradiction | (have hm_ : (1 ≤ gw ∧ gw ≤ 4) ∧ (2 ≤ gi ∧ gi ≤ 64) ∧ (2 ≤ gb ∧ gb ≤ 512) := hm; simp only [placeOf, if_pos hm]; split <;> omega) | (simp only [placeOf, if_neg hm]; done)), rfl⟩, hs12⟩
 ·
  have h10p : May gw gi gb := of_decide_eq_true (bnot_false h10)
  have hm : May gw gi gb := h10p
  have hm_ : (1 ≤ gw ∧ gw ≤ 4) ∧ (2 ≤ gi ∧ gi ≤ 64) ∧ (2 ≤ gb ∧ gb ≤ 512) := hm
  refine zS 8 h10 ?_
  refine zS 7 h10 ?_
  refine zR 4 ?_
  rcases Bool.eq_false_or_eq_true (decide (n_ < 0)) with h13 | h13
  ·
   have h13p := of_decide_eq_true h13
   refine zS 12 h13 ?_
   refine zS 10 h13 ?_
   refine zS 11 h13 ?_
   refine zE 5 (hK6 _ _ ?_)
   refine W.cond_true true (by kernel_rfl) rfl ?_
   refine W.sr fun K14 hK14 => ?_
   refine zE 1 (hK14 _ _ ?_)
   refine W.ret (ret_seq ?_)
   have hs15 := St.tk0 hs9
   refine ret_of (.int .i64 (-1)) (by kernel_rfl) ⟨_, ⟨congrArg (Value.int .i64) (by by_cases hm : May gw gi gb <;> first | contradiction | (have hm_ : (1 ≤ gw ∧ gw ≤ 4) ∧ (2 ≤ gi ∧ gi ≤ 64) ∧ (2 ≤ gb ∧ gb ≤ 512) := hm; simp only [placeOf, if_pos hm]; split <;> omega) | (simp only [placeOf, if_neg hm]; done)), rfl⟩, hs15⟩
  ·
   have h13p := of_decide_eq_false h13
   refine zS 12 h13 ?_
   refine zS 10 h13 ?_
   refine zS 11 h13 ?_
   refine zR 2 ?_
   refine zL ⟨b4, 1, none⟩ (.int .i64 gi) (hs9.cellAt 0 rfl rfl) ?_
   refine zE 2 (hK6 _ _ ?_)
   refine W.cond (decide (n_ ≥ gi)) (by kernel_rfl) (fun h16 => ?_) (fun h16 => ?_)
   ·
    have h16p := of_decide_eq_true h16
    refine W.sr fun K17 hK17 => ?_
    refine zE 1 (hK17 _ _ ?_)
    refine W.ret (ret_seq ?_)
    have hs18 := St.tk0 hs9
    refine ret_of (.int .i64 (-1)) (by kernel_rfl) ⟨_, ⟨congrArg (Value.int .i64) (by by_cases hm : May gw gi gb <;> first | contradiction | (have hm_ : (1 ≤ gw ∧ gw ≤ 4) ∧ (2 ≤ gi ∧ gi ≤ 64) ∧ (2 ≤ gb ∧ gb ≤ 512) := hm; simp only [placeOf, if_pos hm]; split <;> omega) | (simp only [placeOf, if_neg hm]; done)), rfl⟩, hs18⟩
   ·
    have h16p := of_decide_eq_false h16
    refine W.skip ?_
    refine hK5 _ _ ?_
    refine W.sr fun K19 hK19 => ?_
    refine ops_R (runs_loadAgg (ad := ⟨b4, 0, none⟩) (cs := [(.int .i64 gw), (.int .i64 gi), (.int .i64 gb)]) (by kernel_rfl) (cells_sub (hs9.heapAt 0 rfl) rfl)) ?_
    refine zC00 hs9 (maps_spec (hm := hm) (gw := gw) (gi := gi) (gb := gb) B _) fun w20 hs22 => ?_
    refine zI ((264 + 208 * gw) + 16) (wrap_i64 (by omega) (by omega)) ?_
    refine zR 1 ?_
    refine zI (16 * n_) (wrap_i64 (by omega) (by omega)) ?_
    refine zI (((264 + 208 * gw) + 16) + (16 * n_)) (wrap_i64 (by omega) (by omega)) ?_
    refine zE 1 (hK19 _ _ ?_)
    refine W.ret ?_
    have hs23 := St.tk0 hs22
    refine ret_of (.int .i64 (((264 + 208 * gw) + 16) + (16 * n_))) (by kernel_rfl) ⟨_, ⟨congrArg (Value.int .i64) (by by_cases hm : May gw gi gb <;> first | contradiction | (have hm_ : (1 ≤ gw ∧ gw ≤ 4) ∧ (2 ≤ gi ∧ gi ≤ 64) ∧ (2 ≤ gb ∧ gb ≤ 512) := hm; simp only [placeOf, if_pos hm]; split <;> omega) | (simp only [placeOf, if_neg hm]; done)), rfl⟩, hs23⟩

end Go.Proofs.YtmmclabkkigiaaaGreatDoor

set_option maxRecDepth 20000
namespace Go.Proofs.YtmmclabkkigiaaaGreatDoor
open Go Go.RowKit
set_option linter.unusedSimpArgs false
set_option linter.unusedVariables false

theorem format_spec {gw gi gb : Int} (B : Nat) (w : World) : Spec Tryz.prog 16 #[(.agg #[(.int .i64 gw), (.int .i64 gi), (.int .i64 gb)])] B w [] (fun v H' => ∃ a' c', v = .slice a' (fmtW gw gi gb).length c' ∧ H' = [kU64.row a' c' (fmtW gw gi gb)]) := by
 refine spec_Q Tryz.func16 rfl fun hs => ?_
 refine W.sr fun K1 hK1 => ?_
 refine zN [(.int .i64 gw), (.int .i64 gi), (.int .i64 gb)] 42 hs fun b4 w2 hs3 => ?_
 refine zE 1 (hK1 _ _ ?_)
 refine W.seq fun K5 hK5 => ?_
 refine W.sr fun K6 hK6 => ?_
 refine ops_R (runs_loadAgg (ad := ⟨b4, 0, none⟩) (cs := [(.int .i64 gw), (.int .i64 gi), (.int .i64 gb)]) (by kernel_rfl) (cells_sub (hs3.heapAt 0 rfl) rfl)) ?_
 refine zC00 hs3 (rmay_spec (gw := gw) (gi := gi) (gb := gb) B _) fun w7 hs9 => ?_
 refine zE 1 (hK6 _ _ ?_)
 refine W.cond (!(decide (May gw gi gb))) (by kernel_rfl) (fun h10 => ?_) (fun h10 => ?_)
 ·
  have h10p : ¬ (May gw gi gb) := of_decide_eq_false (bnot_true h10)
  refine W.sr fun K11 hK11 => ?_
  refine zE 1 (hK11 _ _ ?_)
  refine W.ret (ret_seq ?_)
  have hs12 := St.tk0 hs9
  have hk := St.knil kU64 hs12
  have e_ : fmtW gw gi gb = [] := if_neg (by assumption)
  refine ret_of (.slice none 0 0) (by kernel_rfl) ⟨_, ⟨none, 0, by rw [e_]; rfl, by rw [e_]⟩, hk⟩
 ·
  have h10p : May gw gi gb := of_decide_eq_true (bnot_false h10)
  have hm : May gw gi gb := h10p
  have hm_ : (1 ≤ gw ∧ gw ≤ 4) ∧ (2 ≤ gi ∧ gi ≤ 64) ∧ (2 ≤ gb ∧ gb ≤ 512) := hm
  have hwd := words_may hm
  have hp6 := place6 hm
  have hp7 := place7 hm
  have hp8 := place8_in (n := 1) hm (by omega)
  refine W.skip ?_
  refine hK5 _ _ ?_
  refine W.sr fun K13 hK13 => ?_
  refine ops_R (runs_loadAgg (ad := ⟨b4, 0, none⟩) (cs := [(.int .i64 gw), (.int .i64 gi), (.int .i64 gb)]) (by kernel_rfl) (cells_sub (hs9.heapAt 0 rfl) rfl)) ?_
  refine zC00 hs9 (rwords_spec (gw := gw) (gi := gi) (gb := gb) B _) fun w14 hs16 => ?_
  refine ops_makeSlice kU64 0 (z := (wordsOf gw gi gb)) (bytes := 8) ((wordsOf gw gi gb).toNat) (by omega) hs16 (by kernel_rfl) (by omega) (by unfold maxLen; omega) (fun b17 w18 hs19 => ?_)
  refine zE 1 (hK13 _ _ ?_)
  refine W.sr fun K20 hK20 => ?_
  refine zR 1 ?_
  have hk21 : 0 < (wordsOf gw gi gb).toNat := by omega
  have hk22 : 0 < (List.replicate ((wordsOf gw gi gb).toNat) (0 : Int)).length := by simp only [List.length_set, List.length_replicate]; exact hk21
  refine ops_R (runs_index (a := (some ⟨b17, 0, none⟩)) (n := (wordsOf gw gi gb).toNat) (z := 0) (size := 1) 0 rfl hk21 (kU64.addr (St.kcells kU64 hs19 0 rfl) hk22) (by kernel_rfl)) ?_
  refine ops_storeK kU64 (j := 0) (vs := [(.int .u64 32762617960297063)]) 0 32762617960297063 hs19 hk22 (Nat.le_of_ble_eq_true rfl) (by simp) rfl rfl (by kernel_rfl) (fun w23 hs24 => ?_)
  refine zD (hK20 _ _ ?_)
  refine W.sr fun K26 hK26 => ?_
  refine zR 2 ?_
  refine zL ⟨b4, 0, none⟩ (.int .i64 gw) (hs24.cellAt 1 rfl rfl) ?_
  refine zI gw (wrap_u64 (by omega) (by omega)) ?_
  have hk27 : 1 < (wordsOf gw gi gb).toNat := by omega
  have hk28 : 1 < ((List.replicate ((wordsOf gw gi gb).toNat) (0 : Int)).set 0 32762617960297063).length := by simp only [List.length_set, List.length_replicate]; exact hk27
  refine ops_R (runs_index (a := (some ⟨b17, 0, none⟩)) (n := (wordsOf gw gi gb).toNat) (z := 1) (size := 1) 1 rfl hk27 (kU64.addr (St.kcells kU64 hs24 0 rfl) hk28) (by kernel_rfl)) ?_
  refine ops_storeK kU64 (j := 0) (vs := [(.int .u64 gw)]) 0 gw hs24 hk28 (Nat.le_of_ble_eq_true rfl) (by simp) rfl rfl (by kernel_rfl) (fun w29 hs30 => ?_)
  refine zD (hK26 _ _ ?_)
  refine W.sr fun K32 hK32 => ?_
  refine zR 2 ?_
  refine zL ⟨b4, 1, none⟩ (.int .i64 gi) (hs30.cellAt 1 rfl rfl) ?_
  refine zI gi (wrap_u64 (by omega) (by omega)) ?_
  have hk33 : 2 < (wordsOf gw gi gb).toNat := by omega
  have hk34 : 2 < (((List.replicate ((wordsOf gw gi gb).toNat) (0 : Int)).set 0 32762617960297063).set 1 gw).length := by simp only [List.length_set, List.length_replicate]; exact hk33
  refine ops_R (runs_index (a := (some ⟨b17, 0, none⟩)) (n := (wordsOf gw gi gb).toNat) (z := 2) (size := 1) 2 rfl hk33 (kU64.addr (St.kcells kU64 hs30 0 rfl) hk34) (by kernel_rfl)) ?_
  refine ops_storeK kU64 (j := 0) (vs := [(.int .u64 gi)]) 0 gi hs30 hk34 (Nat.le_of_ble_eq_true rfl) (by simp) rfl rfl (by kernel_rfl) (fun w35 hs36 => ?_)
  refine zD (hK32 _ _ ?_)
  refine W.sr fun K38 hK38 => ?_
  refine zR 2 ?_
  refine zL ⟨b4, 2, none⟩ (.int .i64 gb) (hs36.cellAt 1 rfl rfl) ?_
  refine zI gb (wrap_u64 (by omega) (by omega)) ?_
  have hk39 : 3 < (wordsOf gw gi gb).toNat := by omega
  have hk40 : 3 < ((((List.replicate ((wordsOf gw gi gb).toNat) (0 : Int)).set 0 32762617960297063).set 1 gw).set 2 gi).length := by simp only [List.length_set, List.length_replicate]; exact hk39
  refine ops_R (runs_index (a := (some ⟨b17, 0, none⟩)) (n := (wordsOf gw gi gb).toNat) (z := 3) (size := 1) 3 rfl hk39 (kU64.addr (St.kcells kU64 hs36 0 rfl) hk40) (by kernel_rfl)) ?_
  refine ops_storeK kU64 (j := 0) (vs := [(.int .u64 gb)]) 0 gb hs36 hk40 (Nat.le_of_ble_eq_true rfl) (by simp) rfl rfl (by kernel_rfl) (fun w41 hs42 => ?_)
  refine zD (hK38 _ _ ?_)
  refine W.sr fun K44 hK44 => ?_
  refine zR 1 ?_
  refine ops_R (runs_loadAgg (ad := ⟨b4, 0, none⟩) (cs := [(.int .i64 gw), (.int .i64 gi), (.int .i64 gb)]) (by kernel_rfl) (cells_sub (hs42.heapAt 1 rfl) rfl)) ?_
  refine zC00 hs42 (rmapat_spec (gw := gw) (gi := gi) (gb := gb) B _) fun w45 hs47 => ?_
  have hk48 : (placeOf 6 gw gi gb 0).toNat < (wordsOf gw gi gb).toNat := by omega
  have hk49 : (placeOf 6 gw gi gb 0).toNat < (((((List.replicate ((wordsOf gw gi gb).toNat) (0 : Int)).set 0 32762617960297063).set 1 gw).set 2 gi).set 3 gb).length := by simp only [List.length_set, List.length_replicate]; exact hk48
  refine ops_R (runs_index (a := (some ⟨b17, 0, none⟩)) (n := (wordsOf gw gi gb).toNat) (z := (placeOf 6 gw gi gb 0)) (size := 1) ((placeOf 6 gw gi gb 0).toNat) (by omega) hk48 (kU64.addr (St.kcells kU64 hs47 0 rfl) hk49) (by kernel_rfl)) ?_
  refine ops_storeK kU64 (j := 0) (vs := [(.int .u64 3)]) 0 3 hs47 hk49 (Nat.le_of_ble_eq_true rfl) (by simp) rfl rfl (by kernel_rfl) (fun w50 hs51 => ?_)
  refine zD (hK44 _ _ ?_)
  refine W.sr fun K53 hK53 => ?_
  refine zR 1 ?_
  refine ops_R (runs_loadAgg (ad := ⟨b4, 0, none⟩) (cs := [(.int .i64 gw), (.int .i64 gi), (.int .i64 gb)]) (by kernel_rfl) (cells_sub (hs51.heapAt 1 rfl) rfl)) ?_
  refine zC00 hs51 (rbmapat_spec (gw := gw) (gi := gi) (gb := gb) B _) fun w54 hs56 => ?_
  have hk57 : (placeOf 7 gw gi gb 0).toNat < (wordsOf gw gi gb).toNat := by omega
  have hk58 : (placeOf 7 gw gi gb 0).toNat < ((((((List.replicate ((wordsOf gw gi gb).toNat) (0 : Int)).set 0 32762617960297063).set 1 gw).set 2 gi).set 3 gb).set ((placeOf 6 gw gi gb 0).toNat) 3).length := by simp only [List.length_set, List.length_replicate]; exact hk57
  refine ops_R (runs_index (a := (some ⟨b17, 0, none⟩)) (n := (wordsOf gw gi gb).toNat) (z := (placeOf 7 gw gi gb 0)) (size := 1) ((placeOf 7 gw gi gb 0).toNat) (by omega) hk57 (kU64.addr (St.kcells kU64 hs56 0 rfl) hk58) (by kernel_rfl)) ?_
  refine ops_storeK kU64 (j := 0) (vs := [(.int .u64 1)]) 0 1 hs56 hk58 (Nat.le_of_ble_eq_true rfl) (by simp) rfl rfl (by kernel_rfl) (fun w59 hs60 => ?_)
  refine zD (hK53 _ _ ?_)
  refine W.sr fun K62 hK62 => ?_
  refine zR 1 ?_
  refine ops_R (runs_loadAgg (ad := ⟨b4, 0, none⟩) (cs := [(.int .i64 gw), (.int .i64 gi), (.int .i64 gb)]) (by kernel_rfl) (cells_sub (hs60.heapAt 1 rfl) rfl)) ?_
  refine zC00 hs60 (rinodeat_spec (gw := gw) (gi := gi) (gb := gb) (n_ := 1) B _) fun w63 hs65 => ?_
  have hk66 : (placeOf 8 gw gi gb 1).toNat < (wordsOf gw gi gb).toNat := by omega
  have hk67 : (placeOf 8 gw gi gb 1).toNat < (((((((List.replicate ((wordsOf gw gi gb).toNat) (0 : Int)).set 0 32762617960297063).set 1 gw).set 2 gi).set 3 gb).set ((placeOf 6 gw gi gb 0).toNat) 3).set ((placeOf 7 gw gi gb 0).toNat) 1).length := by simp only [List.length_set, List.length_replicate]; exact hk66
  refine ops_R (runs_index (a := (some ⟨b17, 0, none⟩)) (n := (wordsOf gw gi gb).toNat) (z := (placeOf 8 gw gi gb 1)) (size := 1) ((placeOf 8 gw gi gb 1).toNat) (by omega) hk66 (kU64.addr (St.kcells kU64 hs65 0 rfl) hk67) (by kernel_rfl)) ?_
  refine ops_storeK kU64 (j := 0) (vs := [(.int .u64 2)]) 0 2 hs65 hk67 (Nat.le_of_ble_eq_true rfl) (by simp) rfl rfl (by kernel_rfl) (fun w68 hs69 => ?_)
  refine zD (hK62 _ _ ?_)
  refine W.sr fun K71 hK71 => ?_
  refine zR 1 ?_
  refine ops_R (runs_loadAgg (ad := ⟨b4, 0, none⟩) (cs := [(.int .i64 gw), (.int .i64 gi), (.int .i64 gb)]) (by kernel_rfl) (cells_sub (hs69.heapAt 1 rfl) rfl)) ?_
  refine zC00 hs69 (rinodeat_spec (gw := gw) (gi := gi) (gb := gb) (n_ := 1) B _) fun w72 hs74 => ?_
  refine zI ((placeOf 8 gw gi gb 1) + 1) (wrap_i64 (by omega) (by omega)) ?_
  have hk75 : ((placeOf 8 gw gi gb 1) + 1).toNat < (wordsOf gw gi gb).toNat := by omega
  have hk76 : ((placeOf 8 gw gi gb 1) + 1).toNat < ((((((((List.replicate ((wordsOf gw gi gb).toNat) (0 : Int)).set 0 32762617960297063).set 1 gw).set 2 gi).set 3 gb).set ((placeOf 6 gw gi gb 0).toNat) 3).set ((placeOf 7 gw gi gb 0).toNat) 1).set ((placeOf 8 gw gi gb 1).toNat) 2).length := by simp only [List.length_set, List.length_replicate]; exact hk75
  refine ops_R (runs_index (a := (some ⟨b17, 0, none⟩)) (n := (wordsOf gw gi gb).toNat) (z := ((placeOf 8 gw gi gb 1) + 1)) (size := 1) (((placeOf 8 gw gi gb 1) + 1).toNat) (by omega) hk75 (kU64.addr (St.kcells kU64 hs74 0 rfl) hk76) (by kernel_rfl)) ?_
  refine ops_storeK kU64 (j := 0) (vs := [(.int .u64 1)]) 0 1 hs74 hk76 (Nat.le_of_ble_eq_true rfl) (by simp) rfl rfl (by kernel_rfl) (fun w77 hs78 => ?_)
  refine zD (hK71 _ _ ?_)
  refine W.sr fun K80 hK80 => ?_
  refine zE 2 (hK80 _ _ ?_)
  refine W.ret ?_
  have hs81 := St.tk1 hs78
  have e_ : (((((((((List.replicate ((wordsOf gw gi gb).toNat) (0 : Int)).set 0 32762617960297063).set 1 gw).set 2 gi).set 3 gb).set ((placeOf 6 gw gi gb 0).toNat) 3).set ((placeOf 7 gw gi gb 0).toNat) 1).set ((placeOf 8 gw gi gb 1).toNat) 2).set (((placeOf 8 gw gi gb 1) + 1).toNat) 1) = fmtW gw gi gb := (if_pos hm).symm
  have hs_ := hs81
  rw [e_] at hs_
  refine ret_of (.slice (some ⟨b17, 0, none⟩) ((wordsOf gw gi gb).toNat) ((wordsOf gw gi gb).toNat)) (by kernel_rfl) ⟨_, ⟨(some ⟨b17, 0, none⟩), (wordsOf gw gi gb).toNat, by rw [fmtW_len], rfl⟩, hs_⟩

theorem small_spec {x_ y_ : Int} (B : Nat) (w : World) (hx : 0 ≤ x_ ∧ x_ ≤ 255) (hy : 0 ≤ y_ ∧ y_ ≤ 255) : Spec Tryz.prog 15 #[(.int .u8 x_), (.int .u8 y_)] B w [] (fun v H' => v = .agg #[.int .i64 1, .int .i64 (2 + x_ % 20), .int .i64 (2 + y_ % 60)] ∧ H' = []) := by
 refine spec_Q Tryz.func15 rfl fun hs => ?_
 refine W.sr fun K1 hK1 => ?_
 refine zN [(.int .i64 0), (.int .i64 0), (.int .i64 0)] 31 hs fun b4 w2 hs3 => ?_
 refine zD (hK1 _ _ ?_)
 refine W.sr fun K5 hK5 => ?_
 refine zR 1 ?_
 refine zI x_ (wrap_i64 (by omega) (by omega)) ?_
 obtain ⟨r6, hr7, hl8, he9⟩ := rem_nat (x := x_) (y := 20) (by omega) (by omega)
 refine ops_R (v := .int .i64 (r6 : Int)) (runs_rem (k := .i64) (a := x_) (b := 20) (by kernel_rfl) (by omega) hr7) ?_
 refine zI (2 + (r6 : Int)) (wrap_i64 (by omega) (by omega)) ?_
 refine zR 1 ?_
 refine zI y_ (wrap_i64 (by omega) (by omega)) ?_
 obtain ⟨r10, hr11, hl12, he13⟩ := rem_nat (x := y_) (y := 60) (by omega) (by omega)
 refine ops_R (v := .int .i64 (r10 : Int)) (runs_rem (k := .i64) (a := y_) (b := 60) (by kernel_rfl) (by omega) hr11) ?_
 refine zI (2 + (r10 : Int)) (wrap_i64 (by omega) (by omega)) ?_
 refine zR 1 ?_
 refine ops_store (off := 0) (cs := [(.int .i64 0), (.int .i64 0), (.int .i64 0)]) (vs := [(.int .i64 1), (.int .i64 (2 + (r6 : Int))), (.int .i64 (2 + (r10 : Int)))]) hs3 (by kernel_rfl) (by simp) rfl (fun w14 hs15 => ?_)
 have hs16 : St B w [] w14 [blk b4 (.cells [(.int .i64 1), (.int .i64 (2 + (r6 : Int))), (.int .i64 (2 + (r10 : Int)))].toArray 31 (0, 0))] := hs15
 refine zD (hK5 _ _ ?_)
 refine W.ret ?_
 have hs17 := St.tk0 hs16
 refine ret_of (.agg #[(.int .i64 1), (.int .i64 (2 + (r6 : Int))), (.int .i64 (2 + (r10 : Int)))]) (results_cell (ad := ⟨b4, 0, none⟩) (cs := [(.int .i64 1), (.int .i64 (2 + (r6 : Int))), (.int .i64 (2 + (r10 : Int)))]) rfl (by kernel_rfl) (by kernel_rfl) (cells_sub (hs16.heapAt 0 rfl) rfl)) ⟨_, ⟨by simp only [*], rfl⟩, hs17⟩

end Go.Proofs.YtmmclabkkigiaaaGreatDoor

set_option maxRecDepth 20000
set_option maxHeartbeats 1000000
namespace Go.Proofs.YtmmclabkkigiaaaGreatDoor
open Go Go.RowKit
set_option linter.unusedSimpArgs false
set_option linter.unusedVariables false

theorem max5_spec {ma : Option Addr} {mc : Nat} {a_ b_ c_ d_ e_ : Int} (B : Nat) (w : World) (hm : CellsAt ma (kU64.cells [a_, b_, c_, d_, e_]) w) : Spec Tryz.prog 134 #[(.slice ma 5 mc)] B w [] (fun v H' => v = .int .u64 (mx (mx (mx (mx a_ b_) c_) d_) e_) ∧ H' = []) := by
 refine spec_Q Tryz.func134 rfl fun hs => ?_
 refine W.sr fun K1 hK1 => ?_
 refine zE 1 (hK1 _ _ ?_)
 refine W.seq fun K2 hK2 => ?_
 refine W.sr fun K3 hK3 => ?_
 refine zE 3 (hK3 _ _ ?_)
 refine W.cond_false false (by kernel_rfl) rfl ?_
 refine W.skip ?_
 refine hK2 _ _ ?_
 refine W.sr fun K4 hK4 => ?_
 refine zR 1 ?_
 have hk5 : 0 < 5 := by omega
 refine ops_R (runs_index (a := ma) (n := 5) (z := 0) (size := 1) 0 rfl hk5 (kU64.addr (hs.oldCells hm) hk5) (by kernel_rfl)) ?_
 refine zL ((adr ma (0 * 1)).add 0) (.int .u64 (([a_, b_, c_, d_, e_]).getD 0 0)) (kU64.at (hs.oldCells hm) hk5 0 0 rfl) ?_
 refine zE 1 (hK4 _ _ ?_)
 refine W.seq fun K6 hK6 => ?_
 refine W.sr fun K7 hK7 => ?_
 refine zE 1 (hK7 _ _ ?_)
 refine W.block ?_
 refine W.loop_start ?_
 refine loopAt_round ?_
 refine W.seq fun K8 hK8 => ?_
 refine W.sr fun K9 hK9 => ?_
 refine zE 4 (hK9 _ _ ?_)
 refine W.cond_true true (by kernel_rfl) rfl ?_
 refine W.skip ?_
 refine hK8 _ _ ?_
 refine W.seq fun K10 hK10 => ?_
 refine W.block ?_
 refine W.region ?_
 refine zR 3 ?_
 have hk11 : 1 < 5 := by omega
 refine ops_R (runs_index (a := ma) (n := 5) (z := 1) (size := 1) 1 rfl hk11 (kU64.addr (hs.oldCells hm) hk11) (by kernel_rfl)) ?_
 refine zL ((adr ma (1 * 1)).add 0) (.int .u64 (([a_, b_, c_, d_, e_]).getD 1 0)) (kU64.at (hs.oldCells hm) hk11 0 0 rfl) ?_
 refine zE 2 ?_
 refine normal_block ?_
 refine hK10 _ _ ?_
 refine W.region ?_
 refine zE 3 ?_
 refine loopAt_next ?_
 refine loopAt_round ?_
 refine W.seq fun K12 hK12 => ?_
 refine W.sr fun K13 hK13 => ?_
 refine zE 4 (hK13 _ _ ?_)
 refine W.cond_true true (by kernel_rfl) rfl ?_
 refine W.skip ?_
 refine hK12 _ _ ?_
 refine W.seq fun K14 hK14 => ?_
 refine W.block ?_
 refine W.region ?_
 refine zR 3 ?_
 have hk15 : 2 < 5 := by omega
 refine ops_R (runs_index (a := ma) (n := 5) (z := 2) (size := 1) 2 rfl hk15 (kU64.addr (hs.oldCells hm) hk15) (by kernel_rfl)) ?_
 refine zL ((adr ma (2 * 1)).add 0) (.int .u64 (([a_, b_, c_, d_, e_]).getD 2 0)) (kU64.at (hs.oldCells hm) hk15 0 0 rfl) ?_
 refine zE 2 ?_
 refine normal_block ?_
 refine hK14 _ _ ?_
 refine W.region ?_
 refine zE 3 ?_
 refine loopAt_next ?_
 refine loopAt_round ?_
 refine W.seq fun K16 hK16 => ?_
 refine W.sr fun K17 hK17 => ?_
 refine zE 4 (hK17 _ _ ?_)
 refine W.cond_true true (by kernel_rfl) rfl ?_
 refine W.skip ?_
 refine hK16 _ _ ?_
 refine W.seq fun K18 hK18 => ?_
 refine W.block ?_
 refine W.region ?_
 refine zR 3 ?_
 have hk19 : 3 < 5 := by omega
 refine ops_R (runs_index (a := ma) (n := 5) (z := 3) (size := 1) 3 rfl hk19 (kU64.addr (hs.oldCells hm) hk19) (by kernel_rfl)) ?_
 refine zL ((adr ma (3 * 1)).add 0) (.int .u64 (([a_, b_, c_, d_, e_]).getD 3 0)) (kU64.at (hs.oldCells hm) hk19 0 0 rfl) ?_
 refine zE 2 ?_
 refine normal_block ?_
 refine hK18 _ _ ?_
 refine W.region ?_
 refine zE 3 ?_
 refine loopAt_next ?_
 refine loopAt_round ?_
 refine W.seq fun K20 hK20 => ?_
 refine W.sr fun K21 hK21 => ?_
 refine zE 4 (hK21 _ _ ?_)
 refine W.cond_true true (by kernel_rfl) rfl ?_
 refine W.skip ?_
 refine hK20 _ _ ?_
 refine W.seq fun K22 hK22 => ?_
 refine W.block ?_
 refine W.region ?_
 refine zR 3 ?_
 have hk23 : 4 < 5 := by omega
 refine ops_R (runs_index (a := ma) (n := 5) (z := 4) (size := 1) 4 rfl hk23 (kU64.addr (hs.oldCells hm) hk23) (by kernel_rfl)) ?_
 refine zL ((adr ma (4 * 1)).add 0) (.int .u64 (([a_, b_, c_, d_, e_]).getD 4 0)) (kU64.at (hs.oldCells hm) hk23 0 0 rfl) ?_
 refine zE 2 ?_
 refine normal_block ?_
 refine hK22 _ _ ?_
 refine W.region ?_
 refine zE 3 ?_
 refine loopAt_next ?_
 refine loopAt_round ?_
 refine W.seq fun K24 hK24 => ?_
 refine W.sr fun K25 hK25 => ?_
 refine zE 4 (hK25 _ _ ?_)
 refine W.cond_false false (by kernel_rfl) rfl ?_
 refine W.exit (exit_seq (exit_seq (exit_here ?_)))
 refine hK6 _ _ ?_
 refine W.sr fun K26 hK26 => ?_
 refine zE 2 (hK26 _ _ ?_)
 refine W.ret ?_
 refine ret_of (.int .u64 (mx (mx (mx (mx (([a_, b_, c_, d_, e_]).getD 0 0) (([a_, b_, c_, d_, e_]).getD 1 0)) (([a_, b_, c_, d_, e_]).getD 2 0)) (([a_, b_, c_, d_, e_]).getD 3 0)) (([a_, b_, c_, d_, e_]).getD 4 0))) (by kernel_rfl) ⟨_, ⟨rfl, rfl⟩, hs⟩

theorem right_spec {gw gi gb : Int} {x_ : Nd} (B : Nat) (w : World) : Spec Tryz.prog 113 #[(.agg #[(.int .i64 gw), (.int .i64 gi), (.int .i64 gb)]), (.agg #[(.int .u64 x_.k), (.int .u64 x_.l), (.int .u64 x_.o), (.int .u64 x_.s), (.int .u64 x_.a), (.int .u64 x_.b), (.int .u64 x_.c), (.int .u64 x_.d), (.int .u64 x_.e), (.int .u64 x_.m)])] B w [] (fun v H' => v = .bool (decide (RightP gw gi gb x_)) ∧ H' = []) := by
 refine spec_Q Tryz.func113 rfl fun hs => ?_
 refine W.sr fun K1 hK1 => ?_
 refine zN [(.int .i64 gw), (.int .i64 gi), (.int .i64 gb)] 31 hs fun b4 w2 hs3 => ?_
 refine zN [(.int .u64 x_.k), (.int .u64 x_.l), (.int .u64 x_.o), (.int .u64 x_.s), (.int .u64 x_.a), (.int .u64 x_.b), (.int .u64 x_.c), (.int .u64 x_.d), (.int .u64 x_.e), (.int .u64 x_.m)] 153 hs3 fun b7 w5 hs6 => ?_
 refine zE 1 (hK1 _ _ ?_)
 refine W.seq fun K8 hK8 => ?_
 refine W.sr fun K9 hK9 => ?_
 refine ops_R (runs_loadAgg (ad := ⟨b4, 0, none⟩) (cs := [(.int .i64 gw), (.int .i64 gi), (.int .i64 gb)]) (by kernel_rfl) (cells_sub (hs6.heapAt 1 rfl) rfl)) ?_
 refine zC00 hs6 (may_spec (gw := gw) (gi := gi) (gb := gb) B _) fun w10 hs12 => ?_
 refine zR 2 ?_
 rcases Bool.eq_false_or_eq_true (!(decide (May gw gi gb))) with h13 | h13
 ·
  have h13p : ¬ (May gw gi gb) := of_decide_eq_false (bnot_true h13)
  refine zS 9 h13 ?_
  refine zS 8 h13 ?_
  refine zE 4 (hK9 _ _ ?_)
  refine W.cond_true true (by kernel_rfl) rfl ?_
  refine W.sr fun K14 hK14 => ?_
  refine zE 1 (hK14 _ _ ?_)
  refine W.ret (ret_seq ?_)
  have hs15 := St.tk0 hs12
  refine ret_of (.bool false) (by kernel_rfl) ⟨_, ⟨congrArg Value.bool (decide_eq_false (by first | (intro q; exact absurd q.1 (by assumption)) | ((try simp only [mx_lt, le_mx, ge_iff_le, Int.not_le] at *); simp only [RightP]; omega))).symm, rfl⟩, hs15⟩
 ·
  have h13p : May gw gi gb := of_decide_eq_true (bnot_false h13)
  have hm : May gw gi gb := h13p
  have hm_ : (1 ≤ gw ∧ gw ≤ 4) ∧ (2 ≤ gi ∧ gi ≤ 64) ∧ (2 ≤ gb ∧ gb ≤ 512) := hm
  refine zS 9 h13 ?_
  refine zS 8 h13 ?_
  refine ops_R (runs_loadAgg (ad := ⟨b7, 0, none⟩) (cs := [(.int .u64 x_.k), (.int .u64 x_.l), (.int .u64 x_.o), (.int .u64 x_.s), (.int .u64 x_.a), (.int .u64 x_.b), (.int .u64 x_.c), (.int .u64 x_.d), (.int .u64 x_.e), (.int .u64 x_.m)]) (by kernel_rfl) (cells_sub (hs12.heapAt 0 rfl) rfl)) ?_
  refine zR 1 ?_
  refine ops_R (v := (.bool ((decide (x_.k = 0)) && ((decide (x_.l = 0)) && ((decide (x_.o = 0)) && ((decide (x_.s = 0)) && (((decide (x_.a = 0)) && ((decide (x_.b = 0)) && ((decide (x_.c = 0)) && ((decide (x_.d = 0)) && true)))) && ((decide (x_.e = 0)) && ((decide (x_.m = 0)) && true))))))))) (runs_eq (b := ((decide (x_.k = 0)) && ((decide (x_.l = 0)) && ((decide (x_.o = 0)) && ((decide (x_.s = 0)) && (((decide (x_.a = 0)) && ((decide (x_.b = 0)) && ((decide (x_.c = 0)) && ((decide (x_.d = 0)) && true)))) && ((decide (x_.e = 0)) && ((decide (x_.m = 0)) && true)))))))) (by kernel_rfl)) ?_
  refine zE 1 (hK9 _ _ ?_)
  refine W.cond ((decide (x_.k = 0)) && ((decide (x_.l = 0)) && ((decide (x_.o = 0)) && ((decide (x_.s = 0)) && (((decide (x_.a = 0)) && ((decide (x_.b = 0)) && ((decide (x_.c = 0)) && ((decide (x_.d = 0)) && true)))) && ((decide (x_.e = 0)) && ((decide (x_.m = 0)) && true))))))) (by kernel_rfl) (fun h16 => ?_) (fun h16 => ?_)
  ·
   have h16p : x_.k = 0 ∧ x_.l = 0 ∧ x_.o = 0 ∧ x_.s = 0 ∧ (x_.a = 0 ∧ x_.b = 0 ∧ x_.c = 0 ∧ x_.d = 0) ∧ x_.e = 0 ∧ x_.m = 0 := by simpa using h16
   refine W.sr fun K17 hK17 => ?_
   refine zE 1 (hK17 _ _ ?_)
   refine W.ret (ret_seq ?_)
   have hs18 := St.tk0 hs12
   refine ret_of (.bool false) (by kernel_rfl) ⟨_, ⟨congrArg Value.bool (decide_eq_false (by first | (intro q; exact absurd q.1 (by assumption)) | ((try simp only [mx_lt, le_mx, ge_iff_le, Int.not_le] at *); simp only [RightP]; omega))).symm, rfl⟩, hs18⟩
  ·
   have h16p : ¬ (x_.k = 0 ∧ x_.l = 0 ∧ x_.o = 0 ∧ x_.s = 0 ∧ (x_.a = 0 ∧ x_.b = 0 ∧ x_.c = 0 ∧ x_.d = 0) ∧ x_.e = 0 ∧ x_.m = 0) := by simpa using h16
   refine W.skip ?_
   refine hK8 _ _ ?_
   refine W.seq fun K19 hK19 => ?_
   have hs20 := hs12.drew
   refine W.regionD [(0, 0), (1, 1), (0, 0), (4, 4), (8, 8), (18, 18), (63, 32)] (fun w_ => St B w [] w_ [blk b7 (.cells [(.int .u64 x_.k), (.int .u64 x_.l), (.int .u64 x_.o), (.int .u64 x_.s), (.int .u64 x_.a), (.int .u64 x_.b), (.int .u64 x_.c), (.int .u64 x_.d), (.int .u64 x_.e), (.int .u64 x_.m)].toArray 153 (0, 0)), blk b4 (.cells [(.int .i64 gw), (.int .i64 gi), (.int .i64 gb)].toArray 31 (0, 0))]) (by kernel_rfl) hs20 ?_
   refine any_val (v := (.pointer (some ⟨b7, 4, none⟩))) (v' := (.pointer (some ⟨b7, 4, none⟩))) 0 (by kernel_rfl) (fun _ => by kernel_rfl) rfl hs20 ?_
   refine any_val (v := (.slice (some ⟨b7, 4, none⟩) 4 4)) (v' := (.slice (some ⟨b7, 4, none⟩) 4 4)) 1 (by kernel_rfl) (fun _ => by kernel_rfl) rfl hs20 ?_
   refine any_val (v := (.pointer (some ⟨b7, 8, none⟩))) (v' := (.pointer (some ⟨b7, 8, none⟩))) 2 (by kernel_rfl) (fun _ => by kernel_rfl) rfl hs20 ?_
   refine any_R 3 (by kernel_rfl) (fun _ hS_ => runs_load (ad := ⟨b7, 8, none⟩) (v := (.int .u64 x_.e)) (by kernel_rfl) (hS_.cellAt 0 rfl rfl)) hs20 ?_
   refine any_step 4 (by kernel_rfl) (by kernel_rfl) ?_
   refine ops_new (fun b => .slice (some ⟨b, 0, none⟩) 1 1) (.cells [(.int .u64 x_.e)].toArray 25 (0, 0)) hs20 (by kernel_rfl) (fun b23 w21 hs22 => ?_)
   have hs24 := St.f2 hs22
   have hs25 := St.f2 hs24
   have hs26 := St.tk2 hs25
   refine ops_done (by kernel_rfl) ⟨hs26, ?_⟩
   refine any_step 5 (by kernel_rfl) (by kernel_rfl) ?_
   refine ops_appendGrow (e := kU64.e) (size := 1) (bytes := 8) (n := 4) (c := 4) (m := 1) (c' := 1) (olds := [(.int .u64 x_.a), (.int .u64 x_.b), (.int .u64 x_.c), (.int .u64 x_.d)]) (news := [(.int .u64 x_.e)]) hs22 (by kernel_rfl) rfl (cells_sub (off := 4) (hs22.heapAt 1 rfl) rfl) rfl (cells_sub (off := 0) (hs22.heapAt 0 rfl) rfl) (by decide) (by decide) (by decide) (fun a27 c28 w29 hs30 => ?_)
   have hs31 : St B w [] w29 [kU64.row a27 c28 ([x_.a, x_.b, x_.c, x_.d, x_.e]), blk b23 (.cells [(.int .u64 x_.e)].toArray 25 (0, 0)), blk b7 (.cells [(.int .u64 x_.k), (.int .u64 x_.l), (.int .u64 x_.o), (.int .u64 x_.s), (.int .u64 x_.a), (.int .u64 x_.b), (.int .u64 x_.c), (.int .u64 x_.d), (.int .u64 x_.e), (.int .u64 x_.m)].toArray 153 (0, 0)), blk b4 (.cells [(.int .i64 gw), (.int .i64 gi), (.int .i64 gb)].toArray 31 (0, 0))] := hs30
   have hs32 := St.f3 hs31
   have hs33 := St.f3 hs32
   have hs34 := St.tk2 hs33
   refine ops_done (by kernel_rfl) ⟨hs34, ?_⟩
   refine any_val (v := (.slice a27 5 c28)) (v' := (.slice a27 5 c28)) 6 (by kernel_rfl) (fun _ => by kernel_rfl) rfl hs34 ?_
   refine any_done (by kernel_rfl) ?_
   refine hK19 _ _ ?_
   refine W.seq fun K35 hK35 => ?_
   refine W.seq fun K36 hK36 => ?_
   have hs37 := hs31.drew
   refine W.regionD [(0, 0), (1, 1), (0, 0), (4, 4), (8, 8), (18, 18), (34, 32), (64, 64), (192, 192), (64, 64), (576, 576), (1088, 1088), (2368, 2368), (4160, 4160)] (fun w_ => St B w [] w_ [kU64.row a27 c28 ([x_.a, x_.b, x_.c, x_.d, x_.e]), blk b23 (.cells [(.int .u64 x_.e)].toArray 25 (0, 0)), blk b7 (.cells [(.int .u64 x_.k), (.int .u64 x_.l), (.int .u64 x_.o), (.int .u64 x_.s), (.int .u64 x_.a), (.int .u64 x_.b), (.int .u64 x_.c), (.int .u64 x_.d), (.int .u64 x_.e), (.int .u64 x_.m)].toArray 153 (0, 0)), blk b4 (.cells [(.int .i64 gw), (.int .i64 gi), (.int .i64 gb)].toArray 31 (0, 0))]) (by kernel_rfl) hs37 ?_
   refine any_val (v := (.slice a27 5 c28)) (v' := (.slice a27 5 c28)) 0 (by kernel_rfl) (fun _ => by kernel_rfl) rfl hs37 ?_
   refine any_val (v := (.pointer (some ⟨b4, 2, none⟩))) (v' := (.pointer (some ⟨b4, 2, none⟩))) 2 (by kernel_rfl) (fun _ => by kernel_rfl) rfl hs37 ?_
   refine any_R 3 (by kernel_rfl) (fun _ hS_ => runs_load (ad := ⟨b4, 2, none⟩) (v := (.int .i64 gb)) (by kernel_rfl) (hS_.cellAt 3 rfl rfl)) hs37 ?_
   refine any_val (v := .int .u64 (IntKind.u64.wrap gb)) (v' := .int .u64 gb) 4 (by kernel_rfl) (fun _ => by kernel_rfl) (congrArg (Value.int .u64) (wrap_u64 (by omega) (by omega))) hs37 ?_
   refine any_step 1 (by kernel_rfl) (by kernel_rfl) ?_
   refine zC00 hs37 (max5_spec (mc := c28) (a_ := x_.a) (b_ := x_.b) (c_ := x_.c) (d_ := x_.d) (e_ := x_.e) (hm := (St.kcells kU64 hs37 0 rfl)) B _) fun w38 hs40 => ?_
   refine ops_done (by kernel_rfl) ⟨hs40, ?_⟩
   refine any_val (v := (.bool (decide ((mx (mx (mx (mx x_.a x_.b) x_.c) x_.d) x_.e) ≥ gb)))) (v' := (.bool (decide ((mx (mx (mx (mx x_.a x_.b) x_.c) x_.d) x_.e) ≥ gb)))) 5 (by kernel_rfl) (fun _ => by kernel_rfl) rfl hs40 ?_
   refine any_val (v := (.bool (decide ((mx (mx (mx (mx x_.a x_.b) x_.c) x_.d) x_.e) ≥ gb)))) (v' := (.bool (decide ((mx (mx (mx (mx x_.a x_.b) x_.c) x_.d) x_.e) ≥ gb)))) 6 (by kernel_rfl) (fun _ => by kernel_rfl) rfl hs40 ?_
   rcases Bool.eq_false_or_eq_true (decide ((mx (mx (mx (mx x_.a x_.b) x_.c) x_.d) x_.e) ≥ gb)) with h41 | h41
   ·
    have h41p := of_decide_eq_true h41
    refine any_set 25 (v := .bool true) (eq_bool_of (by kernel_rfl) h41) ?_
    refine any_set 26 (v := .bool true) (eq_bool_of (by kernel_rfl) h41) ?_
    refine any_skip 7 (by kernel_rfl) (by kernel_rfl) hs40 ?_
    refine any_skip 8 (by kernel_rfl) (by kernel_rfl) hs40 ?_
    refine any_skip 9 (by kernel_rfl) (by kernel_rfl) hs40 ?_
    refine any_skip 10 (by kernel_rfl) (by kernel_rfl) hs40 ?_
    refine any_skip 11 (by kernel_rfl) (by kernel_rfl) hs40 ?_
    refine any_skip 12 (by kernel_rfl) (by kernel_rfl) hs40 ?_
    refine any_val (v := (.bool true)) (v' := (.bool true)) 13 (by kernel_rfl) (fun _ => by kernel_rfl) rfl hs40 ?_
    refine any_done (by kernel_rfl) ?_
    refine hK36 _ _ ?_
    refine W.cond_true true (by kernel_rfl) rfl ?_
    refine W.sr fun K42 hK42 => ?_
    refine zE 1 (hK42 _ _ ?_)
    refine W.ret (ret_seq ?_)
    have hs43 := St.tk0 hs40
    refine ret_of (.bool false) (by kernel_rfl) ⟨_, ⟨congrArg Value.bool (decide_eq_false (by first | (intro q; exact absurd q.1 (by assumption)) | ((try simp only [mx_lt, le_mx, ge_iff_le, Int.not_le] at *); simp only [RightP]; omega))).symm, rfl⟩, hs43⟩
   ·
    have h41p := of_decide_eq_false h41
    refine any_set 25 (v := .bool false) (eq_bool_of (by kernel_rfl) h41) ?_
    refine any_set 26 (v := .bool false) (eq_bool_of (by kernel_rfl) h41) ?_
    refine any_val (v := (.pointer (some ⟨b7, 9, none⟩))) (v' := (.pointer (some ⟨b7, 9, none⟩))) 7 (by kernel_rfl) (fun _ => by kernel_rfl) rfl hs40 ?_
    refine any_R 8 (by kernel_rfl) (fun _ hS_ => runs_load (ad := ⟨b7, 9, none⟩) (v := (.int .u64 x_.m)) (by kernel_rfl) (hS_.cellAt 2 rfl rfl)) hs40 ?_
    refine any_val (v := (.pointer (some ⟨b4, 1, none⟩))) (v' := (.pointer (some ⟨b4, 1, none⟩))) 9 (by kernel_rfl) (fun _ => by kernel_rfl) rfl hs40 ?_
    refine any_R 10 (by kernel_rfl) (fun _ hS_ => runs_load (ad := ⟨b4, 1, none⟩) (v := (.int .i64 gi)) (by kernel_rfl) (hS_.cellAt 3 rfl rfl)) hs40 ?_
    refine any_val (v := .int .u64 (IntKind.u64.wrap gi)) (v' := .int .u64 gi) 11 (by kernel_rfl) (fun _ => by kernel_rfl) (congrArg (Value.int .u64) (wrap_u64 (by omega) (by omega))) hs40 ?_
    refine any_val (v := (.bool (decide (x_.m ≥ gi)))) (v' := (.bool (decide (x_.m ≥ gi)))) 12 (by kernel_rfl) (fun _ => by kernel_rfl) rfl hs40 ?_
    refine any_val (v := (.bool (decide (x_.m ≥ gi)))) (v' := (.bool (decide (x_.m ≥ gi)))) 13 (by kernel_rfl) (fun _ => by kernel_rfl) rfl hs40 ?_
    refine any_done (by kernel_rfl) ?_
    refine hK36 _ _ ?_
    refine W.cond (decide (x_.m ≥ gi)) (by kernel_rfl) (fun h44 => ?_) (fun h44 => ?_)
    ·
     have h44p := of_decide_eq_true h44
     refine W.sr fun K45 hK45 => ?_
     refine zE 1 (hK45 _ _ ?_)
     refine W.ret (ret_seq ?_)
     have hs46 := St.tk0 hs40
     refine ret_of (.bool false) (by kernel_rfl) ⟨_, ⟨congrArg Value.bool (decide_eq_false (by first | (intro q; exact absurd q.1 (by assumption)) | ((try simp only [mx_lt, le_mx, ge_iff_le, Int.not_le] at *); simp only [RightP]; omega))).symm, rfl⟩, hs46⟩
    ·
     have h44p := of_decide_eq_false h44
     refine W.skip ?_
     refine hK35 _ _ ?_
     refine W.seq fun K47 hK47 => ?_
     refine W.sr fun K48 hK48 => ?_
     refine zR 1 ?_
     refine zL ⟨b7, 1, none⟩ (.int .u64 x_.l) (hs40.cellAt 2 rfl rfl) ?_
     refine zR 2 ?_
     rcases Bool.eq_false_or_eq_true (decide (x_.l > 65536)) with h49 | h49
     ·
      have h49p := of_decide_eq_true h49
      refine zS 37 h49 ?_
      refine zS 36 h49 ?_
      refine zE 9 (hK48 _ _ ?_)
      refine W.cond_true true (by kernel_rfl) rfl ?_
      refine W.sr fun K50 hK50 => ?_
      refine zE 1 (hK50 _ _ ?_)
      refine W.ret (ret_seq ?_)
      have hs51 := St.tk0 hs40
      refine ret_of (.bool false) (by kernel_rfl) ⟨_, ⟨congrArg Value.bool (decide_eq_false (by first | (intro q; exact absurd q.1 (by assumption)) | ((try simp only [mx_lt, le_mx, ge_iff_le, Int.not_le] at *); simp only [RightP]; omega))).symm, rfl⟩, hs51⟩
     ·
      have h49p := of_decide_eq_false h49
      refine zS 37 h49 ?_
      refine zS 36 h49 ?_
      refine zR 1 ?_
      refine zL ⟨b7, 2, none⟩ (.int .u64 x_.o) (hs40.cellAt 2 rfl rfl) ?_
      refine zR 3 ?_
      rcases Bool.eq_false_or_eq_true (decide (x_.o > 16)) with h52 | h52
      ·
       have h52p := of_decide_eq_true h52
       refine zS 42 h52 ?_
       refine zS 40 h52 ?_
       refine zS 41 h52 ?_
       refine zE 4 (hK48 _ _ ?_)
       refine W.cond_true true (by kernel_rfl) rfl ?_
       refine W.sr fun K53 hK53 => ?_
       refine zE 1 (hK53 _ _ ?_)
       refine W.ret (ret_seq ?_)
       have hs54 := St.tk0 hs40
       refine ret_of (.bool false) (by kernel_rfl) ⟨_, ⟨congrArg Value.bool (decide_eq_false (by first | (intro q; exact absurd q.1 (by assumption)) | ((try simp only [mx_lt, le_mx, ge_iff_le, Int.not_le] at *); simp only [RightP]; omega))).symm, rfl⟩, hs54⟩
      ·
       have h52p := of_decide_eq_false h52
       refine zS 42 h52 ?_
       refine zS 40 h52 ?_
       refine zS 41 h52 ?_
       refine zR 1 ?_
       refine zL ⟨b7, 3, none⟩ (.int .u64 x_.s) (hs40.cellAt 2 rfl rfl) ?_
       refine zE 2 (hK48 _ _ ?_)
       refine W.cond (decide (x_.s > 768)) (by kernel_rfl) (fun h55 => ?_) (fun h55 => ?_)
       ·
        have h55p := of_decide_eq_true h55
        refine W.sr fun K56 hK56 => ?_
        refine zE 1 (hK56 _ _ ?_)
        refine W.ret (ret_seq ?_)
        have hs57 := St.tk0 hs40
        refine ret_of (.bool false) (by kernel_rfl) ⟨_, ⟨congrArg Value.bool (decide_eq_false (by first | (intro q; exact absurd q.1 (by assumption)) | ((try simp only [mx_lt, le_mx, ge_iff_le, Int.not_le] at *); simp only [RightP]; omega))).symm, rfl⟩, hs57⟩
       ·
        have h55p := of_decide_eq_false h55
        refine W.skip ?_
        refine hK47 _ _ ?_
        refine W.seq fun K58 hK58 => ?_
        refine W.sr fun K59 hK59 => ?_
        refine zR 1 ?_
        refine zL ⟨b7, 0, none⟩ (.int .u64 x_.k) (hs40.cellAt 2 rfl rfl) ?_
        refine zD (hK59 _ _ ?_)
        refine W.block ?_
        refine W.sr fun K60 hK60 => ?_
        refine zE 2 (hK60 _ _ ?_)
        refine W.cond (decide (x_.k = 1)) (by kernel_rfl) (fun h61 => ?_) (fun h61 => ?_)
        ·
         have h61p := of_decide_eq_true h61
         refine W.sr fun K62 hK62 => ?_
         refine zR 1 ?_
         refine zL ⟨b7, 9, none⟩ (.int .u64 x_.m) (hs40.cellAt 2 rfl rfl) ?_
         refine zE 2 (hK62 _ _ ?_)
         refine W.ret (ret_block (ret_seq ?_))
         have hs63 := St.tk0 hs40
         refine ret_of (.bool (decide (x_.m = 0))) (by kernel_rfl) ⟨_, ⟨congrArg Value.bool (decide_eq_decide.2 (by (try simp only [mx_lt, le_mx, ge_iff_le, Int.not_le] at *); simp only [RightP, hm, true_and]; omega)), rfl⟩, hs63⟩
        ·
         have h61p := of_decide_eq_false h61
         refine W.sr fun K64 hK64 => ?_
         refine zE 2 (hK64 _ _ ?_)
         refine W.cond (decide (x_.k = 2)) (by kernel_rfl) (fun h65 => ?_) (fun h65 => ?_)
         ·
          have h65p := of_decide_eq_true h65
          refine W.sr fun K66 hK66 => ?_
          refine zR 1 ?_
          refine zL ⟨b7, 3, none⟩ (.int .u64 x_.s) (hs40.cellAt 2 rfl rfl) ?_
          refine zE 2 (hK66 _ _ ?_)
          refine W.ret (ret_block (ret_seq ?_))
          have hs67 := St.tk0 hs40
          refine ret_of (.bool (decide (x_.s = 0))) (by kernel_rfl) ⟨_, ⟨congrArg Value.bool (decide_eq_decide.2 (by (try simp only [mx_lt, le_mx, ge_iff_le, Int.not_le] at *); simp only [RightP, hm, true_and]; omega)), rfl⟩, hs67⟩
         ·
          have h65p := of_decide_eq_false h65
          refine W.skip ?_
          refine normal_block ?_
          refine hK58 _ _ ?_
          refine W.sr fun K68 hK68 => ?_
          refine zE 1 (hK68 _ _ ?_)
          refine W.ret ?_
          have hs69 := St.tk0 hs40
          refine ret_of (.bool false) (by kernel_rfl) ⟨_, ⟨congrArg Value.bool (decide_eq_false (by first | (intro q; exact absurd q.1 (by assumption)) | ((try simp only [mx_lt, le_mx, ge_iff_le, Int.not_le] at *); simp only [RightP]; omega))).symm, rfl⟩, hs69⟩

end Go.Proofs.YtmmclabkkigiaaaGreatDoor
