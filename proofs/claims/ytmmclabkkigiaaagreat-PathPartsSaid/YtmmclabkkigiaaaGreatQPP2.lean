/- Texts, one behind the other: F6b, F6c, F7a, Lv, F6d, F6e, F6f, F6g. -/
import Derived.Test.YtmmclabkkigiaaaGreatQPP1
set_option linter.unusedVariables false
set_option linter.unusedSimpArgs false
set_option maxRecDepth 20000
namespace Go.Proofs.YtmmclabkkigiaaaGreat
open Go Go.RowKit
theorem rows_spec {gw gi gb : Int} (B : Nat) (w : World) : Spec Tryz.prog 91 #[(.agg #[(zi gw), (zi gi), (zi gb)])] B w [] (fun v H' => v = (.agg #[(.int .u8 1), (zi 8), (zi 1), (.int .u8 2), (zi 64), (zi 4), (.int .u8 5), (zi 208), (zi gw), (.int .u8 6), (zi 8), (zi 1), (.int .u8 7), (zi 8), (zi 1), (.int .u8 8), (zi 16), (zi gi), (.int .u8 9), (zi 8), (zi gb)]) ∧ H' = []) := by
 refine spec_Q Tryz.func91 rfl fun hs => ?_
 refine W.sr fun K1 hK1 => ?_
 refine zN [(zi gw), (zi gi), (zi gb)] 24 hs fun b4 w2 hs3 => ?_
 refine zN [(.int .u8 0), (zi 0), (zi 0), (.int .u8 0), (zi 0), (zi 0), (.int .u8 0), (zi 0), (zi 0), (.int .u8 0), (zi 0), (zi 0), (.int .u8 0), (zi 0), (zi 0), (.int .u8 0), (zi 0), (zi 0), (.int .u8 0), (zi 0), (zi 0)] 176 hs3 fun b7 w5 hs6 => ?_
 refine zD (hK1 _ _ ?_)
 refine W.sr fun K8 hK8 => ?_
 refine zR 3 ?_
 refine zL ⟨b4, 0, none⟩ (zi gw) (hs6.cellAt 1 rfl rfl) ?_
 refine zR 4 ?_
 refine zL ⟨b4, 1, none⟩ (zi gi) (hs6.cellAt 1 rfl rfl) ?_
 refine zR 2 ?_
 refine zL ⟨b4, 2, none⟩ (zi gb) (hs6.cellAt 1 rfl rfl) ?_
 refine zR 2 ?_
 refine zT 0 [(.int .u8 1), (zi 8), (zi 1), (.int .u8 2), (zi 64), (zi 4), (.int .u8 5), (zi 208), (zi gw), (.int .u8 6), (zi 8), (zi 1), (.int .u8 7), (zi 8), (zi 1), (.int .u8 8), (zi 16), (zi gi), (.int .u8 9), (zi 8), (zi gb)] [(.int .u8 1), (zi 8), (zi 1), (.int .u8 2), (zi 64), (zi 4), (.int .u8 5), (zi 208), (zi gw), (.int .u8 6), (zi 8), (zi 1), (.int .u8 7), (zi 8), (zi 1), (.int .u8 8), (zi 16), (zi gi), (.int .u8 9), (zi 8), (zi gb)] hs6 fun w9 hs11 => ?_
 refine zD (hK8 _ _ ?_)
 refine W.ret ?_
 have hs12 := St.tk0 hs11
 refine ret_of (.agg #[(.int .u8 1), (zi 8), (zi 1), (.int .u8 2), (zi 64), (zi 4), (.int .u8 5), (zi 208), (zi gw), (.int .u8 6), (zi 8), (zi 1), (.int .u8 7), (zi 8), (zi 1), (.int .u8 8), (zi 16), (zi gi), (.int .u8 9), (zi 8), (zi gb)]) (results_cell (ad := ⟨b7, 0, none⟩) (cs := [(.int .u8 1), (zi 8), (zi 1), (.int .u8 2), (zi 64), (zi 4), (.int .u8 5), (zi 208), (zi gw), (.int .u8 6), (zi 8), (zi 1), (.int .u8 7), (zi 8), (zi 1), (.int .u8 8), (zi 16), (zi gi), (.int .u8 9), (zi 8), (zi gb)]) rfl (by kernel_rfl) (by kernel_rfl) (cells_sub (hs11.heapAt 0 rfl) rfl)) ⟨_, ⟨rfl, rfl⟩, hs12⟩
theorem lwords_spec {gw gi gb : Int} (B : Nat) (w : World) : Spec Tryz.prog 65 #[(.agg #[(zi gw), (zi gi), (zi gb)])] B w [] (fun v H' => v = .int .i64 (wordsOf gw gi gb) ∧ H' = []) := by
 refine spec_Q Tryz.func65 rfl fun hs => ?_
 refine W.sr fun K1 hK1 => ?_
 refine zN [(zi gw), (zi gi), (zi gb)] 24 hs fun b4 w2 hs3 => ?_
 refine zE 1 (hK1 _ _ ?_)
 refine W.seq fun K5 hK5 => ?_
 refine W.sr fun K6 hK6 => ?_
 refine zG ⟨b4, 0, none⟩ [(zi gw), (zi gi), (zi gb)] (cells_sub (hs3.heapAt 0 rfl) rfl) ?_
 refine zC00 hs3 (may_spec (gw := gw) (gi := gi) (gb := gb) B _) fun w7 hs9 => ?_
 refine zE 1 (hK6 _ _ ?_)
 refine W.cond (!(decide (May gw gi gb))) (by kernel_rfl) (fun h10 => ?_) (fun h10 => ?_)
 ·
  have h10p : ¬ (May gw gi gb) := of_decide_eq_false (bnot_true h10)
  have hm : ¬ May gw gi gb := h10p
  refine W.sr fun K11 hK11 => ?_
  refine zE 1 (hK11 _ _ ?_)
  refine W.ret (ret_seq ?_)
  have hs12 := St.tk0 hs9
  refine ret_of (zi 0) (by kernel_rfl) ⟨_, ⟨congrArg (Value.int .i64) (by first | contradiction | (simp only [wordsOf, if_pos hm]; omega) | (simp only [wordsOf, if_neg hm]; done)), rfl⟩, hs12⟩
 have h10p : May gw gi gb := of_decide_eq_true (bnot_false h10)
 have hm : May gw gi gb := h10p
 have hm_ : (1 ≤ gw ∧ gw ≤ 4) ∧ (2 ≤ gi ∧ gi ≤ 64) ∧ (2 ≤ gb ∧ gb ≤ 512) := hm
 refine W.skip ?_
 refine hK5 _ _ ?_
 refine W.seq fun K13 hK13 => ?_
 refine W.sr fun K14 hK14 => ?_
 refine zG ⟨b4, 0, none⟩ [(zi gw), (zi gi), (zi gb)] (cells_sub (hs9.heapAt 0 rfl) rfl) ?_
 refine zC00 hs9 (rows_spec (gw := gw) (gi := gi) (gb := gb) B _) fun w15 hs17 => ?_
 refine zE 1 (hK14 _ _ ?_)
 refine W.block ?_
 refine W.loop_start ?_
 refine loopAt_round ?_
 refine W.sr fun K18 hK18 => ?_
 refine zE 1 (hK18 _ _ ?_)
 refine W.seq fun K19 hK19 => ?_
 refine W.cond_true true (by kernel_rfl) rfl ?_
 refine W.skip ?_
 refine hK19 _ _ ?_
 refine W.seq fun K20 hK20 => ?_
 refine W.block ?_
 refine W.sr fun K21 hK21 => ?_
 refine zR 1 ?_
 refine zN [(.int .u8 0), (zi 0), (zi 0)] 175 hs17 fun b24 w22 hs23 => ?_
 refine zT 0 [(.int .u8 1), (zi 8), (zi 1)] [(.int .u8 1), (zi 8), (zi 1)] hs23 fun w25 hs27 => ?_
 refine zD (hK21 _ _ ?_)
 refine W.region ?_
 refine zR 2 ?_
 refine zL ⟨b24, 1, none⟩ (zi 8) (hs27.cellAt 0 rfl rfl) ?_
 refine zR 1 ?_
 refine zL ⟨b24, 2, none⟩ (zi 1) (hs27.cellAt 0 rfl rfl) ?_
 refine zE 3 ?_
 refine normal_block ?_
 refine hK20 _ _ ?_
 refine W.region ?_
 refine zE 2 ?_
 refine loopAt_next ?_
 refine loopAt_round ?_
 refine W.sr fun K28 hK28 => ?_
 refine zE 1 (hK28 _ _ ?_)
 refine W.seq fun K29 hK29 => ?_
 refine W.cond_true true (by kernel_rfl) rfl ?_
 refine W.skip ?_
 refine hK29 _ _ ?_
 refine W.seq fun K30 hK30 => ?_
 refine W.block ?_
 refine W.sr fun K31 hK31 => ?_
 refine zR 1 ?_
 refine zN [(.int .u8 0), (zi 0), (zi 0)] 175 hs27 fun b34 w32 hs33 => ?_
 refine zT 0 [(.int .u8 2), (zi 64), (zi 4)] [(.int .u8 2), (zi 64), (zi 4)] hs33 fun w35 hs37 => ?_
 refine zD (hK31 _ _ ?_)
 refine W.region ?_
 refine zR 2 ?_
 refine zL ⟨b34, 1, none⟩ (zi 64) (hs37.cellAt 0 rfl rfl) ?_
 refine zR 1 ?_
 refine zL ⟨b34, 2, none⟩ (zi 4) (hs37.cellAt 0 rfl rfl) ?_
 refine zE 3 ?_
 refine normal_block ?_
 refine hK30 _ _ ?_
 refine W.region ?_
 refine zE 2 ?_
 refine loopAt_next ?_
 refine loopAt_round ?_
 refine W.sr fun K38 hK38 => ?_
 refine zE 1 (hK38 _ _ ?_)
 refine W.seq fun K39 hK39 => ?_
 refine W.cond_true true (by kernel_rfl) rfl ?_
 refine W.skip ?_
 refine hK39 _ _ ?_
 refine W.seq fun K40 hK40 => ?_
 refine W.block ?_
 refine W.sr fun K41 hK41 => ?_
 refine zR 1 ?_
 refine zN [(.int .u8 0), (zi 0), (zi 0)] 175 hs37 fun b44 w42 hs43 => ?_
 refine zT 0 [(.int .u8 5), (zi 208), (zi gw)] [(.int .u8 5), (zi 208), (zi gw)] hs43 fun w45 hs47 => ?_
 refine zD (hK41 _ _ ?_)
 refine W.region ?_
 refine zR 2 ?_
 refine zL ⟨b44, 1, none⟩ (zi 208) (hs47.cellAt 0 rfl rfl) ?_
 refine zR 1 ?_
 refine zL ⟨b44, 2, none⟩ (zi gw) (hs47.cellAt 0 rfl rfl) ?_
 refine zI (208 * gw) (wrap_i64 (by omega) (by omega)) ?_
 refine zI (264 + (208 * gw)) (wrap_i64 (by omega) (by omega)) ?_
 refine zE 1 ?_
 refine normal_block ?_
 refine hK40 _ _ ?_
 refine W.region ?_
 refine zE 2 ?_
 refine loopAt_next ?_
 refine loopAt_round ?_
 refine W.sr fun K48 hK48 => ?_
 refine zE 1 (hK48 _ _ ?_)
 refine W.seq fun K49 hK49 => ?_
 refine W.cond_true true (by kernel_rfl) rfl ?_
 refine W.skip ?_
 refine hK49 _ _ ?_
 refine W.seq fun K50 hK50 => ?_
 refine W.block ?_
 refine W.sr fun K51 hK51 => ?_
 refine zR 1 ?_
 refine zN [(.int .u8 0), (zi 0), (zi 0)] 175 hs47 fun b54 w52 hs53 => ?_
 refine zT 0 [(.int .u8 6), (zi 8), (zi 1)] [(.int .u8 6), (zi 8), (zi 1)] hs53 fun w55 hs57 => ?_
 refine zD (hK51 _ _ ?_)
 refine W.region ?_
 refine zR 2 ?_
 refine zL ⟨b54, 1, none⟩ (zi 8) (hs57.cellAt 0 rfl rfl) ?_
 refine zR 1 ?_
 refine zL ⟨b54, 2, none⟩ (zi 1) (hs57.cellAt 0 rfl rfl) ?_
 refine zR 1 ?_
 refine zI ((264 + (208 * gw)) + 8) (wrap_i64 (by omega) (by omega)) ?_
 refine zE 1 ?_
 refine normal_block ?_
 refine hK50 _ _ ?_
 refine W.region ?_
 refine zE 2 ?_
 refine loopAt_next ?_
 refine loopAt_round ?_
 refine W.sr fun K58 hK58 => ?_
 refine zE 1 (hK58 _ _ ?_)
 refine W.seq fun K59 hK59 => ?_
 refine W.cond_true true (by kernel_rfl) rfl ?_
 refine W.skip ?_
 refine hK59 _ _ ?_
 refine W.seq fun K60 hK60 => ?_
 refine W.block ?_
 refine W.sr fun K61 hK61 => ?_
 refine zR 1 ?_
 refine zN [(.int .u8 0), (zi 0), (zi 0)] 175 hs57 fun b64 w62 hs63 => ?_
 refine zT 0 [(.int .u8 7), (zi 8), (zi 1)] [(.int .u8 7), (zi 8), (zi 1)] hs63 fun w65 hs67 => ?_
 refine zD (hK61 _ _ ?_)
 refine W.region ?_
 refine zR 2 ?_
 refine zL ⟨b64, 1, none⟩ (zi 8) (hs67.cellAt 0 rfl rfl) ?_
 refine zR 1 ?_
 refine zL ⟨b64, 2, none⟩ (zi 1) (hs67.cellAt 0 rfl rfl) ?_
 refine zR 1 ?_
 refine zI (((264 + (208 * gw)) + 8) + 8) (wrap_i64 (by omega) (by omega)) ?_
 refine zE 1 ?_
 refine normal_block ?_
 refine hK60 _ _ ?_
 refine W.region ?_
 refine zE 2 ?_
 refine loopAt_next ?_
 refine loopAt_round ?_
 refine W.sr fun K68 hK68 => ?_
 refine zE 1 (hK68 _ _ ?_)
 refine W.seq fun K69 hK69 => ?_
 refine W.cond_true true (by kernel_rfl) rfl ?_
 refine W.skip ?_
 refine hK69 _ _ ?_
 refine W.seq fun K70 hK70 => ?_
 refine W.block ?_
 refine W.sr fun K71 hK71 => ?_
 refine zR 1 ?_
 refine zN [(.int .u8 0), (zi 0), (zi 0)] 175 hs67 fun b74 w72 hs73 => ?_
 refine zT 0 [(.int .u8 8), (zi 16), (zi gi)] [(.int .u8 8), (zi 16), (zi gi)] hs73 fun w75 hs77 => ?_
 refine zD (hK71 _ _ ?_)
 refine W.region ?_
 refine zR 2 ?_
 refine zL ⟨b74, 1, none⟩ (zi 16) (hs77.cellAt 0 rfl rfl) ?_
 refine zR 1 ?_
 refine zL ⟨b74, 2, none⟩ (zi gi) (hs77.cellAt 0 rfl rfl) ?_
 refine zI (16 * gi) (wrap_i64 (by omega) (by omega)) ?_
 refine zI ((((264 + (208 * gw)) + 8) + 8) + (16 * gi)) (wrap_i64 (by omega) (by omega)) ?_
 refine zE 1 ?_
 refine normal_block ?_
 refine hK70 _ _ ?_
 refine W.region ?_
 refine zE 2 ?_
 refine loopAt_next ?_
 refine loopAt_round ?_
 refine W.sr fun K78 hK78 => ?_
 refine zE 1 (hK78 _ _ ?_)
 refine W.seq fun K79 hK79 => ?_
 refine W.cond_true true (by kernel_rfl) rfl ?_
 refine W.skip ?_
 refine hK79 _ _ ?_
 refine W.seq fun K80 hK80 => ?_
 refine W.block ?_
 refine W.sr fun K81 hK81 => ?_
 refine zR 1 ?_
 refine zN [(.int .u8 0), (zi 0), (zi 0)] 175 hs77 fun b84 w82 hs83 => ?_
 refine zT 0 [(.int .u8 9), (zi 8), (zi gb)] [(.int .u8 9), (zi 8), (zi gb)] hs83 fun w85 hs87 => ?_
 refine zD (hK81 _ _ ?_)
 refine W.region ?_
 refine zR 2 ?_
 refine zL ⟨b84, 1, none⟩ (zi 8) (hs87.cellAt 0 rfl rfl) ?_
 refine zR 1 ?_
 refine zL ⟨b84, 2, none⟩ (zi gb) (hs87.cellAt 0 rfl rfl) ?_
 refine zI (8 * gb) (wrap_i64 (by omega) (by omega)) ?_
 refine zI (((((264 + (208 * gw)) + 8) + 8) + (16 * gi)) + (8 * gb)) (wrap_i64 (by omega) (by omega)) ?_
 refine zE 1 ?_
 refine normal_block ?_
 refine hK80 _ _ ?_
 refine W.region ?_
 refine zE 2 ?_
 refine loopAt_next ?_
 refine loopAt_round ?_
 refine W.sr fun K88 hK88 => ?_
 refine zE 1 (hK88 _ _ ?_)
 refine W.seq fun K89 hK89 => ?_
 refine W.cond_false false (by kernel_rfl) rfl ?_
 refine W.exit (exit_seq (exit_seq (exit_here ?_)))
 refine hK13 _ _ ?_
 refine W.sr fun K90 hK90 => ?_
 refine zE 2 (hK90 _ _ ?_)
 refine W.ret ?_
 have hs91 := St.tk0 hs87
 refine ret_of (zi (((((264 + (208 * gw)) + 8) + 8) + (16 * gi)) + (8 * gb))) (by kernel_rfl) ⟨_, ⟨congrArg (Value.int .i64) (by first | contradiction | (simp only [wordsOf, if_pos hm]; omega) | (simp only [wordsOf, if_neg hm]; done)), rfl⟩, hs91⟩
theorem place8_spec {gw gi gb n_ : Int} (B : Nat) (w : World) : Spec Tryz.prog 103 #[(.agg #[(zi gw), (zi gi), (zi gb)]), (.int .u8 8), (zi n_)] B w [] (fun v H' => v = .int .i64 (placeOf 8 gw gi gb n_) ∧ H' = []) := by
 refine spec_Q Tryz.func103 rfl fun hs => ?_
 refine W.sr fun K1 hK1 => ?_
 refine zN [(zi gw), (zi gi), (zi gb)] 24 hs fun b4 w2 hs3 => ?_
 refine zE 1 (hK1 _ _ ?_)
 refine W.sr fun K5 hK5 => ?_
 refine zE 1 (hK5 _ _ ?_)
 refine W.seq fun K6 hK6 => ?_
 refine W.sr fun K7 hK7 => ?_
 refine zG ⟨b4, 0, none⟩ [(zi gw), (zi gi), (zi gb)] (cells_sub (hs3.heapAt 0 rfl) rfl) ?_
 refine zC00 hs3 (rows_spec (gw := gw) (gi := gi) (gb := gb) B _) fun w8 hs10 => ?_
 refine zE 1 (hK7 _ _ ?_)
 refine W.block ?_
 refine W.loop_start ?_
 refine loopAt_round ?_
 refine W.sr fun K11 hK11 => ?_
 refine zE 1 (hK11 _ _ ?_)
 refine W.seq fun K12 hK12 => ?_
 refine W.cond_true true (by kernel_rfl) rfl ?_
 refine W.skip ?_
 refine hK12 _ _ ?_
 refine W.seq fun K13 hK13 => ?_
 refine W.block ?_
 refine W.sr fun K14 hK14 => ?_
 refine zR 1 ?_
 refine zN [(.int .u8 0), (zi 0), (zi 0)] 175 hs10 fun b17 w15 hs16 => ?_
 refine zT 0 [(.int .u8 1), (zi 8), (zi 1)] [(.int .u8 1), (zi 8), (zi 1)] hs16 fun w18 hs20 => ?_
 refine zD (hK14 _ _ ?_)
 refine W.seq fun K21 hK21 => ?_
 refine W.sr fun K22 hK22 => ?_
 refine zR 1 ?_
 refine zL ⟨b17, 0, none⟩ (.int .u8 1) (hs20.cellAt 0 rfl rfl) ?_
 refine zE 2 (hK22 _ _ ?_)
 refine W.cond_true true (by kernel_rfl) rfl ?_
 refine W.sr fun K23 hK23 => ?_
 refine zR 2 ?_
 refine zL ⟨b17, 1, none⟩ (zi 8) (hs20.cellAt 0 rfl rfl) ?_
 refine zR 1 ?_
 refine zL ⟨b17, 2, none⟩ (zi 1) (hs20.cellAt 0 rfl rfl) ?_
 refine zE 3 (hK23 _ _ ?_)
 refine W.exit (exit_seq (exit_here ?_))
 refine hK13 _ _ ?_
 refine W.region ?_
 refine zE 2 ?_
 refine loopAt_next ?_
 refine loopAt_round ?_
 refine W.sr fun K24 hK24 => ?_
 refine zE 1 (hK24 _ _ ?_)
 refine W.seq fun K25 hK25 => ?_
 refine W.cond_true true (by kernel_rfl) rfl ?_
 refine W.skip ?_
 refine hK25 _ _ ?_
 refine W.seq fun K26 hK26 => ?_
 refine W.block ?_
 refine W.sr fun K27 hK27 => ?_
 refine zR 1 ?_
 refine zN [(.int .u8 0), (zi 0), (zi 0)] 175 hs20 fun b30 w28 hs29 => ?_
 refine zT 0 [(.int .u8 2), (zi 64), (zi 4)] [(.int .u8 2), (zi 64), (zi 4)] hs29 fun w31 hs33 => ?_
 refine zD (hK27 _ _ ?_)
 refine W.seq fun K34 hK34 => ?_
 refine W.sr fun K35 hK35 => ?_
 refine zR 1 ?_
 refine zL ⟨b30, 0, none⟩ (.int .u8 2) (hs33.cellAt 0 rfl rfl) ?_
 refine zE 2 (hK35 _ _ ?_)
 refine W.cond_true true (by kernel_rfl) rfl ?_
 refine W.sr fun K36 hK36 => ?_
 refine zR 2 ?_
 refine zL ⟨b30, 1, none⟩ (zi 64) (hs33.cellAt 0 rfl rfl) ?_
 refine zR 1 ?_
 refine zL ⟨b30, 2, none⟩ (zi 4) (hs33.cellAt 0 rfl rfl) ?_
 refine zE 3 (hK36 _ _ ?_)
 refine W.exit (exit_seq (exit_here ?_))
 refine hK26 _ _ ?_
 refine W.region ?_
 refine zE 2 ?_
 refine loopAt_next ?_
 refine loopAt_round ?_
 refine W.sr fun K37 hK37 => ?_
 refine zE 1 (hK37 _ _ ?_)
 refine W.seq fun K38 hK38 => ?_
 refine W.cond_true true (by kernel_rfl) rfl ?_
 refine W.skip ?_
 refine hK38 _ _ ?_
 refine W.seq fun K39 hK39 => ?_
 refine W.block ?_
 refine W.sr fun K40 hK40 => ?_
 refine zR 1 ?_
 refine zN [(.int .u8 0), (zi 0), (zi 0)] 175 hs33 fun b43 w41 hs42 => ?_
 refine zT 0 [(.int .u8 5), (zi 208), (zi gw)] [(.int .u8 5), (zi 208), (zi gw)] hs42 fun w44 hs46 => ?_
 refine zD (hK40 _ _ ?_)
 refine W.seq fun K47 hK47 => ?_
 refine W.sr fun K48 hK48 => ?_
 refine zR 1 ?_
 refine zL ⟨b43, 0, none⟩ (.int .u8 5) (hs46.cellAt 0 rfl rfl) ?_
 refine zE 2 (hK48 _ _ ?_)
 refine W.cond_true true (by kernel_rfl) rfl ?_
 refine W.sr fun K49 hK49 => ?_
 refine zR 2 ?_
 refine zL ⟨b43, 1, none⟩ (zi 208) (hs46.cellAt 0 rfl rfl) ?_
 refine zR 1 ?_
 refine zL ⟨b43, 2, none⟩ (zi gw) (hs46.cellAt 0 rfl rfl) ?_
 refine ops_val (v := .int .i64 (IntKind.i64.wrap (208 * gw))) (v' := .int .i64 (IntKind.i64.wrap (208 * gw))) (by kernel_rfl) rfl ?_
 refine ops_val (v := .int .i64 (IntKind.i64.wrap (264 + (IntKind.i64.wrap (208 * gw))))) (v' := .int .i64 (IntKind.i64.wrap (264 + (IntKind.i64.wrap (208 * gw))))) (by kernel_rfl) rfl ?_
 refine zE 1 (hK49 _ _ ?_)
 refine W.exit (exit_seq (exit_here ?_))
 refine hK39 _ _ ?_
 refine W.region ?_
 refine zE 2 ?_
 refine loopAt_next ?_
 refine loopAt_round ?_
 refine W.sr fun K50 hK50 => ?_
 refine zE 1 (hK50 _ _ ?_)
 refine W.seq fun K51 hK51 => ?_
 refine W.cond_true true (by kernel_rfl) rfl ?_
 refine W.skip ?_
 refine hK51 _ _ ?_
 refine W.seq fun K52 hK52 => ?_
 refine W.block ?_
 refine W.sr fun K53 hK53 => ?_
 refine zR 1 ?_
 refine zN [(.int .u8 0), (zi 0), (zi 0)] 175 hs46 fun b56 w54 hs55 => ?_
 refine zT 0 [(.int .u8 6), (zi 8), (zi 1)] [(.int .u8 6), (zi 8), (zi 1)] hs55 fun w57 hs59 => ?_
 refine zD (hK53 _ _ ?_)
 refine W.seq fun K60 hK60 => ?_
 refine W.sr fun K61 hK61 => ?_
 refine zR 1 ?_
 refine zL ⟨b56, 0, none⟩ (.int .u8 6) (hs59.cellAt 0 rfl rfl) ?_
 refine zE 2 (hK61 _ _ ?_)
 refine W.cond_true true (by kernel_rfl) rfl ?_
 refine W.sr fun K62 hK62 => ?_
 refine zR 2 ?_
 refine zL ⟨b56, 1, none⟩ (zi 8) (hs59.cellAt 0 rfl rfl) ?_
 refine zR 1 ?_
 refine zL ⟨b56, 2, none⟩ (zi 1) (hs59.cellAt 0 rfl rfl) ?_
 refine zR 1 ?_
 refine ops_val (v := .int .i64 (IntKind.i64.wrap ((IntKind.i64.wrap (264 + (IntKind.i64.wrap (208 * gw)))) + 8))) (v' := .int .i64 (IntKind.i64.wrap ((IntKind.i64.wrap (264 + (IntKind.i64.wrap (208 * gw)))) + 8))) (by kernel_rfl) rfl ?_
 refine zE 1 (hK62 _ _ ?_)
 refine W.exit (exit_seq (exit_here ?_))
 refine hK52 _ _ ?_
 refine W.region ?_
 refine zE 2 ?_
 refine loopAt_next ?_
 refine loopAt_round ?_
 refine W.sr fun K63 hK63 => ?_
 refine zE 1 (hK63 _ _ ?_)
 refine W.seq fun K64 hK64 => ?_
 refine W.cond_true true (by kernel_rfl) rfl ?_
 refine W.skip ?_
 refine hK64 _ _ ?_
 refine W.seq fun K65 hK65 => ?_
 refine W.block ?_
 refine W.sr fun K66 hK66 => ?_
 refine zR 1 ?_
 refine zN [(.int .u8 0), (zi 0), (zi 0)] 175 hs59 fun b69 w67 hs68 => ?_
 refine zT 0 [(.int .u8 7), (zi 8), (zi 1)] [(.int .u8 7), (zi 8), (zi 1)] hs68 fun w70 hs72 => ?_
 refine zD (hK66 _ _ ?_)
 refine W.seq fun K73 hK73 => ?_
 refine W.sr fun K74 hK74 => ?_
 refine zR 1 ?_
 refine zL ⟨b69, 0, none⟩ (.int .u8 7) (hs72.cellAt 0 rfl rfl) ?_
 refine zE 2 (hK74 _ _ ?_)
 refine W.cond_true true (by kernel_rfl) rfl ?_
 refine W.sr fun K75 hK75 => ?_
 refine zR 2 ?_
 refine zL ⟨b69, 1, none⟩ (zi 8) (hs72.cellAt 0 rfl rfl) ?_
 refine zR 1 ?_
 refine zL ⟨b69, 2, none⟩ (zi 1) (hs72.cellAt 0 rfl rfl) ?_
 refine zR 1 ?_
 refine ops_val (v := .int .i64 (IntKind.i64.wrap ((IntKind.i64.wrap ((IntKind.i64.wrap (264 + (IntKind.i64.wrap (208 * gw)))) + 8)) + 8))) (v' := .int .i64 (IntKind.i64.wrap ((IntKind.i64.wrap ((IntKind.i64.wrap (264 + (IntKind.i64.wrap (208 * gw)))) + 8)) + 8))) (by kernel_rfl) rfl ?_
 refine zE 1 (hK75 _ _ ?_)
 refine W.exit (exit_seq (exit_here ?_))
 refine hK65 _ _ ?_
 refine W.region ?_
 refine zE 2 ?_
 refine loopAt_next ?_
 refine loopAt_round ?_
 refine W.sr fun K76 hK76 => ?_
 refine zE 1 (hK76 _ _ ?_)
 refine W.seq fun K77 hK77 => ?_
 refine W.cond_true true (by kernel_rfl) rfl ?_
 refine W.skip ?_
 refine hK77 _ _ ?_
 refine W.seq fun K78 hK78 => ?_
 refine W.block ?_
 refine W.sr fun K79 hK79 => ?_
 refine zR 1 ?_
 refine zN [(.int .u8 0), (zi 0), (zi 0)] 175 hs72 fun b82 w80 hs81 => ?_
 refine zT 0 [(.int .u8 8), (zi 16), (zi gi)] [(.int .u8 8), (zi 16), (zi gi)] hs81 fun w83 hs85 => ?_
 refine zD (hK79 _ _ ?_)
 refine W.seq fun K86 hK86 => ?_
 refine W.sr fun K87 hK87 => ?_
 refine zR 1 ?_
 refine zL ⟨b82, 0, none⟩ (.int .u8 8) (hs85.cellAt 0 rfl rfl) ?_
 refine zE 2 (hK87 _ _ ?_)
 refine W.cond_false false (by kernel_rfl) rfl ?_
 refine W.skip ?_
 refine hK86 _ _ ?_
 refine W.seq fun K88 hK88 => ?_
 refine W.sr fun K89 hK89 => ?_
 refine zG ⟨b4, 0, none⟩ [(zi gw), (zi gi), (zi gb)] (cells_sub (hs85.heapAt 6 rfl) rfl) ?_
 refine zC00 hs85 (may_spec (gw := gw) (gi := gi) (gb := gb) B _) fun w90 hs92 => ?_
 refine zR 1 ?_
 rcases Bool.eq_false_or_eq_true (decide (May gw gi gb)) with h93 | h93
 ·
  have h93p := of_decide_eq_true h93
  refine zS 28 h93 ?_
  refine zS 27 h93 ?_
  refine zR 2 ?_
  refine zL ⟨b82, 2, none⟩ (zi gi) (hs92.cellAt 0 rfl rfl) ?_
  refine ops_val (v := .int .i64 (IntKind.i64.wrap (gi - 1))) (v' := .int .i64 (IntKind.i64.wrap (gi - 1))) (by kernel_rfl) rfl ?_
  refine zC00 hs92 (within_spec (n_ := n_) (f_ := 0) (t_ := (IntKind.i64.wrap (gi - 1))) B _) fun w94 hs96 => ?_
  refine zE 1 (hK89 _ _ ?_)
  refine W.cond (decide (0 ≤ n_ ∧ n_ ≤ (IntKind.i64.wrap (gi - 1)))) (by kernel_rfl) (fun h97 => ?_) (fun h97 => ?_)
  ·
   have h97p := of_decide_eq_true h97
   refine W.sr fun K98 hK98 => ?_
   refine zR 2 ?_
   refine zL ⟨b82, 1, none⟩ (zi 16) (hs96.cellAt 0 rfl rfl) ?_
   refine zR 1 ?_
   refine ops_val (v := .int .i64 (IntKind.i64.wrap (16 * n_))) (v' := .int .i64 (IntKind.i64.wrap (16 * n_))) (by kernel_rfl) rfl ?_
   refine ops_val (v := .int .i64 (IntKind.i64.wrap ((IntKind.i64.wrap ((IntKind.i64.wrap ((IntKind.i64.wrap (264 + (IntKind.i64.wrap (208 * gw)))) + 8)) + 8)) + (IntKind.i64.wrap (16 * n_))))) (v' := .int .i64 (IntKind.i64.wrap ((IntKind.i64.wrap ((IntKind.i64.wrap ((IntKind.i64.wrap (264 + (IntKind.i64.wrap (208 * gw)))) + 8)) + 8)) + (IntKind.i64.wrap (16 * n_))))) (by kernel_rfl) rfl ?_
   refine zE 1 (hK98 _ _ ?_)
   refine W.ret (ret_seq (ret_block (ret_seq (ret_seq (ret_block (ret_seq ?_))))))
   have hs99 := St.tk0 hs96
   by_cases hm : May gw gi gb
   ·
    have hm_ : (1 ≤ gw ∧ gw ≤ 4) ∧ (2 ≤ gi ∧ gi ≤ 64) ∧ (2 ≤ gb ∧ gb ≤ 512) := hm
    have q0 : (IntKind.i64.wrap (gi - 1)) = (gi - 1) := (congrArg IntKind.i64.wrap (by omega : (gi - 1) = (gi - 1))).trans (wrap_i64 (by omega) (by omega))
    have q1 : (IntKind.i64.wrap (208 * gw)) = (208 * gw) := (congrArg IntKind.i64.wrap (by omega : (208 * gw) = (208 * gw))).trans (wrap_i64 (by omega) (by omega))
    have q2 : (IntKind.i64.wrap (264 + (IntKind.i64.wrap (208 * gw)))) = (264 + ((208 * gw))) := (congrArg IntKind.i64.wrap (by omega : (264 + (IntKind.i64.wrap (208 * gw))) = (264 + ((208 * gw))))).trans (wrap_i64 (by omega) (by omega))
    have q3 : (IntKind.i64.wrap ((IntKind.i64.wrap (264 + (IntKind.i64.wrap (208 * gw)))) + 8)) = (((264 + ((208 * gw)))) + 8) := (congrArg IntKind.i64.wrap (by omega : ((IntKind.i64.wrap (264 + (IntKind.i64.wrap (208 * gw)))) + 8) = (((264 + ((208 * gw)))) + 8))).trans (wrap_i64 (by omega) (by omega))
    have q4 : (IntKind.i64.wrap ((IntKind.i64.wrap ((IntKind.i64.wrap (264 + (IntKind.i64.wrap (208 * gw)))) + 8)) + 8)) = (((((264 + ((208 * gw)))) + 8)) + 8) := (congrArg IntKind.i64.wrap (by omega : ((IntKind.i64.wrap ((IntKind.i64.wrap (264 + (IntKind.i64.wrap (208 * gw)))) + 8)) + 8) = (((((264 + ((208 * gw)))) + 8)) + 8))).trans (wrap_i64 (by omega) (by omega))
    have q5 : (IntKind.i64.wrap (16 * n_)) = (16 * n_) := (congrArg IntKind.i64.wrap (by omega : (16 * n_) = (16 * n_))).trans (wrap_i64 (by omega) (by omega))
    have q6 : (IntKind.i64.wrap ((IntKind.i64.wrap ((IntKind.i64.wrap ((IntKind.i64.wrap (264 + (IntKind.i64.wrap (208 * gw)))) + 8)) + 8)) + (IntKind.i64.wrap (16 * n_)))) = (((((((264 + ((208 * gw)))) + 8)) + 8)) + ((16 * n_))) := (congrArg IntKind.i64.wrap (by omega : ((IntKind.i64.wrap ((IntKind.i64.wrap ((IntKind.i64.wrap (264 + (IntKind.i64.wrap (208 * gw)))) + 8)) + 8)) + (IntKind.i64.wrap (16 * n_))) = (((((((264 + ((208 * gw)))) + 8)) + 8)) + ((16 * n_))))).trans (wrap_i64 (by omega) (by omega))
    refine ret_of (zi (IntKind.i64.wrap ((IntKind.i64.wrap ((IntKind.i64.wrap ((IntKind.i64.wrap (264 + (IntKind.i64.wrap (208 * gw)))) + 8)) + 8)) + (IntKind.i64.wrap (16 * n_))))) (by kernel_rfl) ⟨_, ⟨congrArg (Value.int .i64) (by first | contradiction | (simp only [placeOf, if_pos hm]; split <;> omega) | (simp only [placeOf, if_pos hm]; omega)), rfl⟩, hs99⟩
   refine ret_of (zi (IntKind.i64.wrap ((IntKind.i64.wrap ((IntKind.i64.wrap ((IntKind.i64.wrap (264 + (IntKind.i64.wrap (208 * gw)))) + 8)) + 8)) + (IntKind.i64.wrap (16 * n_))))) (by kernel_rfl) ⟨_, ⟨congrArg (Value.int .i64) (by first | contradiction | (simp only [placeOf, if_neg hm]; done)), rfl⟩, hs99⟩
  have h97p := of_decide_eq_false h97
  refine W.skip ?_
  refine hK88 _ _ ?_
  refine W.exit (exit_block (by decide) (exit_seq (exit_seq (exit_here ?_))))
  refine hK6 _ _ ?_
  refine W.sr fun K100 hK100 => ?_
  refine zE 1 (hK100 _ _ ?_)
  refine W.ret ?_
  have hs101 := St.tk0 hs96
  by_cases hm : May gw gi gb
  ·
   have hm_ : (1 ≤ gw ∧ gw ≤ 4) ∧ (2 ≤ gi ∧ gi ≤ 64) ∧ (2 ≤ gb ∧ gb ≤ 512) := hm
   have q0 : (IntKind.i64.wrap (gi - 1)) = (gi - 1) := (congrArg IntKind.i64.wrap (by omega : (gi - 1) = (gi - 1))).trans (wrap_i64 (by omega) (by omega))
   refine ret_of (zi (-1)) (by kernel_rfl) ⟨_, ⟨congrArg (Value.int .i64) (by first | contradiction | (simp only [placeOf, if_pos hm]; split <;> omega) | (simp only [placeOf, if_pos hm]; omega)), rfl⟩, hs101⟩
  refine ret_of (zi (-1)) (by kernel_rfl) ⟨_, ⟨congrArg (Value.int .i64) (by first | contradiction | (simp only [placeOf, if_neg hm]; done)), rfl⟩, hs101⟩
 have h93p := of_decide_eq_false h93
 refine zS 28 h93 ?_
 refine zS 27 h93 ?_
 refine zE 6 (hK89 _ _ ?_)
 refine W.cond_false false (by kernel_rfl) rfl ?_
 refine W.skip ?_
 refine hK88 _ _ ?_
 refine W.exit (exit_block (by decide) (exit_seq (exit_seq (exit_here ?_))))
 refine hK6 _ _ ?_
 refine W.sr fun K102 hK102 => ?_
 refine zE 1 (hK102 _ _ ?_)
 refine W.ret ?_
 have hs103 := St.tk0 hs92
 by_cases hm : May gw gi gb
 ·
  have hm_ : (1 ≤ gw ∧ gw ≤ 4) ∧ (2 ≤ gi ∧ gi ≤ 64) ∧ (2 ≤ gb ∧ gb ≤ 512) := hm
  refine ret_of (zi (-1)) (by kernel_rfl) ⟨_, ⟨congrArg (Value.int .i64) (by first | contradiction | (simp only [placeOf, if_pos hm]; split <;> omega) | (simp only [placeOf, if_pos hm]; omega)), rfl⟩, hs103⟩
 refine ret_of (zi (-1)) (by kernel_rfl) ⟨_, ⟨congrArg (Value.int .i64) (by first | contradiction | (simp only [placeOf, if_neg hm]; done)), rfl⟩, hs103⟩
theorem place9_spec {gw gi gb n_ : Int} (B : Nat) (w : World) : Spec Tryz.prog 103 #[(.agg #[(zi gw), (zi gi), (zi gb)]), (.int .u8 9), (zi n_)] B w [] (fun v H' => v = .int .i64 (placeOf 9 gw gi gb n_) ∧ H' = []) := by
 refine spec_Q Tryz.func103 rfl fun hs => ?_
 refine W.sr fun K1 hK1 => ?_
 refine zN [(zi gw), (zi gi), (zi gb)] 24 hs fun b4 w2 hs3 => ?_
 refine zE 1 (hK1 _ _ ?_)
 refine W.sr fun K5 hK5 => ?_
 refine zE 1 (hK5 _ _ ?_)
 refine W.seq fun K6 hK6 => ?_
 refine W.sr fun K7 hK7 => ?_
 refine zG ⟨b4, 0, none⟩ [(zi gw), (zi gi), (zi gb)] (cells_sub (hs3.heapAt 0 rfl) rfl) ?_
 refine zC00 hs3 (rows_spec (gw := gw) (gi := gi) (gb := gb) B _) fun w8 hs10 => ?_
 refine zE 1 (hK7 _ _ ?_)
 refine W.block ?_
 refine W.loop_start ?_
 refine loopAt_round ?_
 refine W.sr fun K11 hK11 => ?_
 refine zE 1 (hK11 _ _ ?_)
 refine W.seq fun K12 hK12 => ?_
 refine W.cond_true true (by kernel_rfl) rfl ?_
 refine W.skip ?_
 refine hK12 _ _ ?_
 refine W.seq fun K13 hK13 => ?_
 refine W.block ?_
 refine W.sr fun K14 hK14 => ?_
 refine zR 1 ?_
 refine zN [(.int .u8 0), (zi 0), (zi 0)] 175 hs10 fun b17 w15 hs16 => ?_
 refine zT 0 [(.int .u8 1), (zi 8), (zi 1)] [(.int .u8 1), (zi 8), (zi 1)] hs16 fun w18 hs20 => ?_
 refine zD (hK14 _ _ ?_)
 refine W.seq fun K21 hK21 => ?_
 refine W.sr fun K22 hK22 => ?_
 refine zR 1 ?_
 refine zL ⟨b17, 0, none⟩ (.int .u8 1) (hs20.cellAt 0 rfl rfl) ?_
 refine zE 2 (hK22 _ _ ?_)
 refine W.cond_true true (by kernel_rfl) rfl ?_
 refine W.sr fun K23 hK23 => ?_
 refine zR 2 ?_
 refine zL ⟨b17, 1, none⟩ (zi 8) (hs20.cellAt 0 rfl rfl) ?_
 refine zR 1 ?_
 refine zL ⟨b17, 2, none⟩ (zi 1) (hs20.cellAt 0 rfl rfl) ?_
 refine zE 3 (hK23 _ _ ?_)
 refine W.exit (exit_seq (exit_here ?_))
 refine hK13 _ _ ?_
 refine W.region ?_
 refine zE 2 ?_
 refine loopAt_next ?_
 refine loopAt_round ?_
 refine W.sr fun K24 hK24 => ?_
 refine zE 1 (hK24 _ _ ?_)
 refine W.seq fun K25 hK25 => ?_
 refine W.cond_true true (by kernel_rfl) rfl ?_
 refine W.skip ?_
 refine hK25 _ _ ?_
 refine W.seq fun K26 hK26 => ?_
 refine W.block ?_
 refine W.sr fun K27 hK27 => ?_
 refine zR 1 ?_
 refine zN [(.int .u8 0), (zi 0), (zi 0)] 175 hs20 fun b30 w28 hs29 => ?_
 refine zT 0 [(.int .u8 2), (zi 64), (zi 4)] [(.int .u8 2), (zi 64), (zi 4)] hs29 fun w31 hs33 => ?_
 refine zD (hK27 _ _ ?_)
 refine W.seq fun K34 hK34 => ?_
 refine W.sr fun K35 hK35 => ?_
 refine zR 1 ?_
 refine zL ⟨b30, 0, none⟩ (.int .u8 2) (hs33.cellAt 0 rfl rfl) ?_
 refine zE 2 (hK35 _ _ ?_)
 refine W.cond_true true (by kernel_rfl) rfl ?_
 refine W.sr fun K36 hK36 => ?_
 refine zR 2 ?_
 refine zL ⟨b30, 1, none⟩ (zi 64) (hs33.cellAt 0 rfl rfl) ?_
 refine zR 1 ?_
 refine zL ⟨b30, 2, none⟩ (zi 4) (hs33.cellAt 0 rfl rfl) ?_
 refine zE 3 (hK36 _ _ ?_)
 refine W.exit (exit_seq (exit_here ?_))
 refine hK26 _ _ ?_
 refine W.region ?_
 refine zE 2 ?_
 refine loopAt_next ?_
 refine loopAt_round ?_
 refine W.sr fun K37 hK37 => ?_
 refine zE 1 (hK37 _ _ ?_)
 refine W.seq fun K38 hK38 => ?_
 refine W.cond_true true (by kernel_rfl) rfl ?_
 refine W.skip ?_
 refine hK38 _ _ ?_
 refine W.seq fun K39 hK39 => ?_
 refine W.block ?_
 refine W.sr fun K40 hK40 => ?_
 refine zR 1 ?_
 refine zN [(.int .u8 0), (zi 0), (zi 0)] 175 hs33 fun b43 w41 hs42 => ?_
 refine zT 0 [(.int .u8 5), (zi 208), (zi gw)] [(.int .u8 5), (zi 208), (zi gw)] hs42 fun w44 hs46 => ?_
 refine zD (hK40 _ _ ?_)
 refine W.seq fun K47 hK47 => ?_
 refine W.sr fun K48 hK48 => ?_
 refine zR 1 ?_
 refine zL ⟨b43, 0, none⟩ (.int .u8 5) (hs46.cellAt 0 rfl rfl) ?_
 refine zE 2 (hK48 _ _ ?_)
 refine W.cond_true true (by kernel_rfl) rfl ?_
 refine W.sr fun K49 hK49 => ?_
 refine zR 2 ?_
 refine zL ⟨b43, 1, none⟩ (zi 208) (hs46.cellAt 0 rfl rfl) ?_
 refine zR 1 ?_
 refine zL ⟨b43, 2, none⟩ (zi gw) (hs46.cellAt 0 rfl rfl) ?_
 refine ops_val (v := .int .i64 (IntKind.i64.wrap (208 * gw))) (v' := .int .i64 (IntKind.i64.wrap (208 * gw))) (by kernel_rfl) rfl ?_
 refine ops_val (v := .int .i64 (IntKind.i64.wrap (264 + (IntKind.i64.wrap (208 * gw))))) (v' := .int .i64 (IntKind.i64.wrap (264 + (IntKind.i64.wrap (208 * gw))))) (by kernel_rfl) rfl ?_
 refine zE 1 (hK49 _ _ ?_)
 refine W.exit (exit_seq (exit_here ?_))
 refine hK39 _ _ ?_
 refine W.region ?_
 refine zE 2 ?_
 refine loopAt_next ?_
 refine loopAt_round ?_
 refine W.sr fun K50 hK50 => ?_
 refine zE 1 (hK50 _ _ ?_)
 refine W.seq fun K51 hK51 => ?_
 refine W.cond_true true (by kernel_rfl) rfl ?_
 refine W.skip ?_
 refine hK51 _ _ ?_
 refine W.seq fun K52 hK52 => ?_
 refine W.block ?_
 refine W.sr fun K53 hK53 => ?_
 refine zR 1 ?_
 refine zN [(.int .u8 0), (zi 0), (zi 0)] 175 hs46 fun b56 w54 hs55 => ?_
 refine zT 0 [(.int .u8 6), (zi 8), (zi 1)] [(.int .u8 6), (zi 8), (zi 1)] hs55 fun w57 hs59 => ?_
 refine zD (hK53 _ _ ?_)
 refine W.seq fun K60 hK60 => ?_
 refine W.sr fun K61 hK61 => ?_
 refine zR 1 ?_
 refine zL ⟨b56, 0, none⟩ (.int .u8 6) (hs59.cellAt 0 rfl rfl) ?_
 refine zE 2 (hK61 _ _ ?_)
 refine W.cond_true true (by kernel_rfl) rfl ?_
 refine W.sr fun K62 hK62 => ?_
 refine zR 2 ?_
 refine zL ⟨b56, 1, none⟩ (zi 8) (hs59.cellAt 0 rfl rfl) ?_
 refine zR 1 ?_
 refine zL ⟨b56, 2, none⟩ (zi 1) (hs59.cellAt 0 rfl rfl) ?_
 refine zR 1 ?_
 refine ops_val (v := .int .i64 (IntKind.i64.wrap ((IntKind.i64.wrap (264 + (IntKind.i64.wrap (208 * gw)))) + 8))) (v' := .int .i64 (IntKind.i64.wrap ((IntKind.i64.wrap (264 + (IntKind.i64.wrap (208 * gw)))) + 8))) (by kernel_rfl) rfl ?_
 refine zE 1 (hK62 _ _ ?_)
 refine W.exit (exit_seq (exit_here ?_))
 refine hK52 _ _ ?_
 refine W.region ?_
 refine zE 2 ?_
 refine loopAt_next ?_
 refine loopAt_round ?_
 refine W.sr fun K63 hK63 => ?_
 refine zE 1 (hK63 _ _ ?_)
 refine W.seq fun K64 hK64 => ?_
 refine W.cond_true true (by kernel_rfl) rfl ?_
 refine W.skip ?_
 refine hK64 _ _ ?_
 refine W.seq fun K65 hK65 => ?_
 refine W.block ?_
 refine W.sr fun K66 hK66 => ?_
 refine zR 1 ?_
 refine zN [(.int .u8 0), (zi 0), (zi 0)] 175 hs59 fun b69 w67 hs68 => ?_
 refine zT 0 [(.int .u8 7), (zi 8), (zi 1)] [(.int .u8 7), (zi 8), (zi 1)] hs68 fun w70 hs72 => ?_
 refine zD (hK66 _ _ ?_)
 refine W.seq fun K73 hK73 => ?_
 refine W.sr fun K74 hK74 => ?_
 refine zR 1 ?_
 refine zL ⟨b69, 0, none⟩ (.int .u8 7) (hs72.cellAt 0 rfl rfl) ?_
 refine zE 2 (hK74 _ _ ?_)
 refine W.cond_true true (by kernel_rfl) rfl ?_
 refine W.sr fun K75 hK75 => ?_
 refine zR 2 ?_
 refine zL ⟨b69, 1, none⟩ (zi 8) (hs72.cellAt 0 rfl rfl) ?_
 refine zR 1 ?_
 refine zL ⟨b69, 2, none⟩ (zi 1) (hs72.cellAt 0 rfl rfl) ?_
 refine zR 1 ?_
 refine ops_val (v := .int .i64 (IntKind.i64.wrap ((IntKind.i64.wrap ((IntKind.i64.wrap (264 + (IntKind.i64.wrap (208 * gw)))) + 8)) + 8))) (v' := .int .i64 (IntKind.i64.wrap ((IntKind.i64.wrap ((IntKind.i64.wrap (264 + (IntKind.i64.wrap (208 * gw)))) + 8)) + 8))) (by kernel_rfl) rfl ?_
 refine zE 1 (hK75 _ _ ?_)
 refine W.exit (exit_seq (exit_here ?_))
 refine hK65 _ _ ?_
 refine W.region ?_
 refine zE 2 ?_
 refine loopAt_next ?_
 refine loopAt_round ?_
 refine W.sr fun K76 hK76 => ?_
 refine zE 1 (hK76 _ _ ?_)
 refine W.seq fun K77 hK77 => ?_
 refine W.cond_true true (by kernel_rfl) rfl ?_
 refine W.skip ?_
 refine hK77 _ _ ?_
 refine W.seq fun K78 hK78 => ?_
 refine W.block ?_
 refine W.sr fun K79 hK79 => ?_
 refine zR 1 ?_
 refine zN [(.int .u8 0), (zi 0), (zi 0)] 175 hs72 fun b82 w80 hs81 => ?_
 refine zT 0 [(.int .u8 8), (zi 16), (zi gi)] [(.int .u8 8), (zi 16), (zi gi)] hs81 fun w83 hs85 => ?_
 refine zD (hK79 _ _ ?_)
 refine W.seq fun K86 hK86 => ?_
 refine W.sr fun K87 hK87 => ?_
 refine zR 1 ?_
 refine zL ⟨b82, 0, none⟩ (.int .u8 8) (hs85.cellAt 0 rfl rfl) ?_
 refine zE 2 (hK87 _ _ ?_)
 refine W.cond_true true (by kernel_rfl) rfl ?_
 refine W.sr fun K88 hK88 => ?_
 refine zR 2 ?_
 refine zL ⟨b82, 1, none⟩ (zi 16) (hs85.cellAt 0 rfl rfl) ?_
 refine zR 1 ?_
 refine zL ⟨b82, 2, none⟩ (zi gi) (hs85.cellAt 0 rfl rfl) ?_
 refine ops_val (v := .int .i64 (IntKind.i64.wrap (16 * gi))) (v' := .int .i64 (IntKind.i64.wrap (16 * gi))) (by kernel_rfl) rfl ?_
 refine ops_val (v := .int .i64 (IntKind.i64.wrap ((IntKind.i64.wrap ((IntKind.i64.wrap ((IntKind.i64.wrap (264 + (IntKind.i64.wrap (208 * gw)))) + 8)) + 8)) + (IntKind.i64.wrap (16 * gi))))) (v' := .int .i64 (IntKind.i64.wrap ((IntKind.i64.wrap ((IntKind.i64.wrap ((IntKind.i64.wrap (264 + (IntKind.i64.wrap (208 * gw)))) + 8)) + 8)) + (IntKind.i64.wrap (16 * gi))))) (by kernel_rfl) rfl ?_
 refine zE 1 (hK88 _ _ ?_)
 refine W.exit (exit_seq (exit_here ?_))
 refine hK78 _ _ ?_
 refine W.region ?_
 refine zE 2 ?_
 refine loopAt_next ?_
 refine loopAt_round ?_
 refine W.sr fun K89 hK89 => ?_
 refine zE 1 (hK89 _ _ ?_)
 refine W.seq fun K90 hK90 => ?_
 refine W.cond_true true (by kernel_rfl) rfl ?_
 refine W.skip ?_
 refine hK90 _ _ ?_
 refine W.seq fun K91 hK91 => ?_
 refine W.block ?_
 refine W.sr fun K92 hK92 => ?_
 refine zR 1 ?_
 refine zN [(.int .u8 0), (zi 0), (zi 0)] 175 hs85 fun b95 w93 hs94 => ?_
 refine zT 0 [(.int .u8 9), (zi 8), (zi gb)] [(.int .u8 9), (zi 8), (zi gb)] hs94 fun w96 hs98 => ?_
 refine zD (hK92 _ _ ?_)
 refine W.seq fun K99 hK99 => ?_
 refine W.sr fun K100 hK100 => ?_
 refine zR 1 ?_
 refine zL ⟨b95, 0, none⟩ (.int .u8 9) (hs98.cellAt 0 rfl rfl) ?_
 refine zE 2 (hK100 _ _ ?_)
 refine W.cond_false false (by kernel_rfl) rfl ?_
 refine W.skip ?_
 refine hK99 _ _ ?_
 refine W.seq fun K101 hK101 => ?_
 refine W.sr fun K102 hK102 => ?_
 refine zG ⟨b4, 0, none⟩ [(zi gw), (zi gi), (zi gb)] (cells_sub (hs98.heapAt 7 rfl) rfl) ?_
 refine zC00 hs98 (may_spec (gw := gw) (gi := gi) (gb := gb) B _) fun w103 hs105 => ?_
 refine zR 1 ?_
 rcases Bool.eq_false_or_eq_true (decide (May gw gi gb)) with h106 | h106
 ·
  have h106p := of_decide_eq_true h106
  refine zS 28 h106 ?_
  refine zS 27 h106 ?_
  refine zR 2 ?_
  refine zL ⟨b95, 2, none⟩ (zi gb) (hs105.cellAt 0 rfl rfl) ?_
  refine ops_val (v := .int .i64 (IntKind.i64.wrap (gb - 1))) (v' := .int .i64 (IntKind.i64.wrap (gb - 1))) (by kernel_rfl) rfl ?_
  refine zC00 hs105 (within_spec (n_ := n_) (f_ := 0) (t_ := (IntKind.i64.wrap (gb - 1))) B _) fun w107 hs109 => ?_
  refine zE 1 (hK102 _ _ ?_)
  refine W.cond (decide (0 ≤ n_ ∧ n_ ≤ (IntKind.i64.wrap (gb - 1)))) (by kernel_rfl) (fun h110 => ?_) (fun h110 => ?_)
  ·
   have h110p := of_decide_eq_true h110
   refine W.sr fun K111 hK111 => ?_
   refine zR 2 ?_
   refine zL ⟨b95, 1, none⟩ (zi 8) (hs109.cellAt 0 rfl rfl) ?_
   refine zR 1 ?_
   refine ops_val (v := .int .i64 (IntKind.i64.wrap (8 * n_))) (v' := .int .i64 (IntKind.i64.wrap (8 * n_))) (by kernel_rfl) rfl ?_
   refine ops_val (v := .int .i64 (IntKind.i64.wrap ((IntKind.i64.wrap ((IntKind.i64.wrap ((IntKind.i64.wrap ((IntKind.i64.wrap (264 + (IntKind.i64.wrap (208 * gw)))) + 8)) + 8)) + (IntKind.i64.wrap (16 * gi)))) + (IntKind.i64.wrap (8 * n_))))) (v' := .int .i64 (IntKind.i64.wrap ((IntKind.i64.wrap ((IntKind.i64.wrap ((IntKind.i64.wrap ((IntKind.i64.wrap (264 + (IntKind.i64.wrap (208 * gw)))) + 8)) + 8)) + (IntKind.i64.wrap (16 * gi)))) + (IntKind.i64.wrap (8 * n_))))) (by kernel_rfl) rfl ?_
   refine zE 1 (hK111 _ _ ?_)
   refine W.ret (ret_seq (ret_block (ret_seq (ret_seq (ret_block (ret_seq ?_))))))
   have hs112 := St.tk0 hs109
   by_cases hm : May gw gi gb
   ·
    have hm_ : (1 ≤ gw ∧ gw ≤ 4) ∧ (2 ≤ gi ∧ gi ≤ 64) ∧ (2 ≤ gb ∧ gb ≤ 512) := hm
    have q0 : (IntKind.i64.wrap (gb - 1)) = (gb - 1) := (congrArg IntKind.i64.wrap (by omega : (gb - 1) = (gb - 1))).trans (wrap_i64 (by omega) (by omega))
    have q1 : (IntKind.i64.wrap (16 * gi)) = (16 * gi) := (congrArg IntKind.i64.wrap (by omega : (16 * gi) = (16 * gi))).trans (wrap_i64 (by omega) (by omega))
    have q2 : (IntKind.i64.wrap (208 * gw)) = (208 * gw) := (congrArg IntKind.i64.wrap (by omega : (208 * gw) = (208 * gw))).trans (wrap_i64 (by omega) (by omega))
    have q3 : (IntKind.i64.wrap (264 + (IntKind.i64.wrap (208 * gw)))) = (264 + ((208 * gw))) := (congrArg IntKind.i64.wrap (by omega : (264 + (IntKind.i64.wrap (208 * gw))) = (264 + ((208 * gw))))).trans (wrap_i64 (by omega) (by omega))
    have q4 : (IntKind.i64.wrap ((IntKind.i64.wrap (264 + (IntKind.i64.wrap (208 * gw)))) + 8)) = (((264 + ((208 * gw)))) + 8) := (congrArg IntKind.i64.wrap (by omega : ((IntKind.i64.wrap (264 + (IntKind.i64.wrap (208 * gw)))) + 8) = (((264 + ((208 * gw)))) + 8))).trans (wrap_i64 (by omega) (by omega))
    have q5 : (IntKind.i64.wrap ((IntKind.i64.wrap ((IntKind.i64.wrap (264 + (IntKind.i64.wrap (208 * gw)))) + 8)) + 8)) = (((((264 + ((208 * gw)))) + 8)) + 8) := (congrArg IntKind.i64.wrap (by omega : ((IntKind.i64.wrap ((IntKind.i64.wrap (264 + (IntKind.i64.wrap (208 * gw)))) + 8)) + 8) = (((((264 + ((208 * gw)))) + 8)) + 8))).trans (wrap_i64 (by omega) (by omega))
    have q6 : (IntKind.i64.wrap ((IntKind.i64.wrap ((IntKind.i64.wrap ((IntKind.i64.wrap (264 + (IntKind.i64.wrap (208 * gw)))) + 8)) + 8)) + (IntKind.i64.wrap (16 * gi)))) = (((((((264 + ((208 * gw)))) + 8)) + 8)) + ((16 * gi))) := (congrArg IntKind.i64.wrap (by omega : ((IntKind.i64.wrap ((IntKind.i64.wrap ((IntKind.i64.wrap (264 + (IntKind.i64.wrap (208 * gw)))) + 8)) + 8)) + (IntKind.i64.wrap (16 * gi))) = (((((((264 + ((208 * gw)))) + 8)) + 8)) + ((16 * gi))))).trans (wrap_i64 (by omega) (by omega))
    have q7 : (IntKind.i64.wrap (8 * n_)) = (8 * n_) := (congrArg IntKind.i64.wrap (by omega : (8 * n_) = (8 * n_))).trans (wrap_i64 (by omega) (by omega))
    have q8 : (IntKind.i64.wrap ((IntKind.i64.wrap ((IntKind.i64.wrap ((IntKind.i64.wrap ((IntKind.i64.wrap (264 + (IntKind.i64.wrap (208 * gw)))) + 8)) + 8)) + (IntKind.i64.wrap (16 * gi)))) + (IntKind.i64.wrap (8 * n_)))) = (((((((((264 + ((208 * gw)))) + 8)) + 8)) + ((16 * gi)))) + ((8 * n_))) := (congrArg IntKind.i64.wrap (by omega : ((IntKind.i64.wrap ((IntKind.i64.wrap ((IntKind.i64.wrap ((IntKind.i64.wrap (264 + (IntKind.i64.wrap (208 * gw)))) + 8)) + 8)) + (IntKind.i64.wrap (16 * gi)))) + (IntKind.i64.wrap (8 * n_))) = (((((((((264 + ((208 * gw)))) + 8)) + 8)) + ((16 * gi)))) + ((8 * n_))))).trans (wrap_i64 (by omega) (by omega))
    refine ret_of (zi (IntKind.i64.wrap ((IntKind.i64.wrap ((IntKind.i64.wrap ((IntKind.i64.wrap ((IntKind.i64.wrap (264 + (IntKind.i64.wrap (208 * gw)))) + 8)) + 8)) + (IntKind.i64.wrap (16 * gi)))) + (IntKind.i64.wrap (8 * n_))))) (by kernel_rfl) ⟨_, ⟨congrArg (Value.int .i64) (by first | contradiction | (simp only [placeOf, if_pos hm]; split <;> omega) | (simp only [placeOf, if_pos hm]; omega)), rfl⟩, hs112⟩
   refine ret_of (zi (IntKind.i64.wrap ((IntKind.i64.wrap ((IntKind.i64.wrap ((IntKind.i64.wrap ((IntKind.i64.wrap (264 + (IntKind.i64.wrap (208 * gw)))) + 8)) + 8)) + (IntKind.i64.wrap (16 * gi)))) + (IntKind.i64.wrap (8 * n_))))) (by kernel_rfl) ⟨_, ⟨congrArg (Value.int .i64) (by first | contradiction | (simp only [placeOf, if_neg hm]; done)), rfl⟩, hs112⟩
  have h110p := of_decide_eq_false h110
  refine W.skip ?_
  refine hK101 _ _ ?_
  refine W.exit (exit_block (by decide) (exit_seq (exit_seq (exit_here ?_))))
  refine hK6 _ _ ?_
  refine W.sr fun K113 hK113 => ?_
  refine zE 1 (hK113 _ _ ?_)
  refine W.ret ?_
  have hs114 := St.tk0 hs109
  by_cases hm : May gw gi gb
  ·
   have hm_ : (1 ≤ gw ∧ gw ≤ 4) ∧ (2 ≤ gi ∧ gi ≤ 64) ∧ (2 ≤ gb ∧ gb ≤ 512) := hm
   have q0 : (IntKind.i64.wrap (gb - 1)) = (gb - 1) := (congrArg IntKind.i64.wrap (by omega : (gb - 1) = (gb - 1))).trans (wrap_i64 (by omega) (by omega))
   refine ret_of (zi (-1)) (by kernel_rfl) ⟨_, ⟨congrArg (Value.int .i64) (by first | contradiction | (simp only [placeOf, if_pos hm]; split <;> omega) | (simp only [placeOf, if_pos hm]; omega)), rfl⟩, hs114⟩
  refine ret_of (zi (-1)) (by kernel_rfl) ⟨_, ⟨congrArg (Value.int .i64) (by first | contradiction | (simp only [placeOf, if_neg hm]; done)), rfl⟩, hs114⟩
 have h106p := of_decide_eq_false h106
 refine zS 28 h106 ?_
 refine zS 27 h106 ?_
 refine zE 6 (hK102 _ _ ?_)
 refine W.cond_false false (by kernel_rfl) rfl ?_
 refine W.skip ?_
 refine hK101 _ _ ?_
 refine W.exit (exit_block (by decide) (exit_seq (exit_seq (exit_here ?_))))
 refine hK6 _ _ ?_
 refine W.sr fun K115 hK115 => ?_
 refine zE 1 (hK115 _ _ ?_)
 refine W.ret ?_
 have hs116 := St.tk0 hs105
 by_cases hm : May gw gi gb
 ·
  have hm_ : (1 ≤ gw ∧ gw ≤ 4) ∧ (2 ≤ gi ∧ gi ≤ 64) ∧ (2 ≤ gb ∧ gb ≤ 512) := hm
  refine ret_of (zi (-1)) (by kernel_rfl) ⟨_, ⟨congrArg (Value.int .i64) (by first | contradiction | (simp only [placeOf, if_pos hm]; split <;> omega) | (simp only [placeOf, if_pos hm]; omega)), rfl⟩, hs116⟩
 refine ret_of (zi (-1)) (by kernel_rfl) ⟨_, ⟨congrArg (Value.int .i64) (by first | contradiction | (simp only [placeOf, if_neg hm]; done)), rfl⟩, hs116⟩
theorem inodeat_spec {gw gi gb n_ : Int} (B : Nat) (w : World) : Spec Tryz.prog 79 #[(.agg #[(zi gw), (zi gi), (zi gb)]), (zi n_)] B w [] (fun v H' => v = .int .i64 (placeOf 8 gw gi gb n_) ∧ H' = []) := by
 refine spec_Q Tryz.func79 rfl fun hs => ?_
 refine W.sr fun K1 hK1 => ?_
 refine zN [(zi gw), (zi gi), (zi gb)] 24 hs fun b4 w2 hs3 => ?_
 refine zE 1 (hK1 _ _ ?_)
 refine W.sr fun K5 hK5 => ?_
 refine zG ⟨b4, 0, none⟩ [(zi gw), (zi gi), (zi gb)] (cells_sub (hs3.heapAt 0 rfl) rfl) ?_
 refine zR 1 ?_
 refine zC00 hs3 (place8_spec (gw := gw) (gi := gi) (gb := gb) (n_ := n_) B _) fun w6 hs8 => ?_
 refine zE 1 (hK5 _ _ ?_)
 refine W.ret ?_
 have hs9 := St.tk0 hs8
 refine ret_of (zi (placeOf 8 gw gi gb n_)) (by kernel_rfl) ⟨_, ⟨rfl, rfl⟩, hs9⟩
theorem areas_spec  (B : Nat) (w : World) : Spec Tryz.prog 89 #[] B w [] (fun v H' => v = .int .i64 264 ∧ H' = []) := by
 refine spec_Q Tryz.func89 rfl fun hs => ?_
 refine W.sr fun K1 hK1 => ?_
 refine zE 1 (hK1 _ _ ?_)
 refine W.sr fun K2 hK2 => ?_
 refine zE 1 (hK2 _ _ ?_)
 refine W.ret ?_
 refine ret_of (zi 264) (by kernel_rfl) ⟨_, ⟨rfl, rfl⟩, hs⟩
theorem maps_spec {gw gi gb : Int} (B : Nat) (w : World) (hm : May gw gi gb) : Spec Tryz.prog 62 #[(.agg #[(zi gw), (zi gi), (zi gb)])] B w [] (fun v H' => v = .int .i64 (264 + 208 * gw) ∧ H' = []) := by
 refine spec_Q Tryz.func62 rfl fun hs => ?_
 have hm_ : (1 ≤ gw ∧ gw ≤ 4) ∧ (2 ≤ gi ∧ gi ≤ 64) ∧ (2 ≤ gb ∧ gb ≤ 512) := hm
 refine W.sr fun K1 hK1 => ?_
 refine zN [(zi gw), (zi gi), (zi gb)] 37 hs fun b4 w2 hs3 => ?_
 refine zE 1 (hK1 _ _ ?_)
 refine W.seq fun K5 hK5 => ?_
 have hs6 := hs3.drew
 refine W.regionD [(0, 0), (0, 0), (2, 2), (4, 4), (9, 9), (31, 16)] (fun w_ => St B w [] w_ [zb b4 37 [(zi gw), (zi gi), (zi gb)]]) (by kernel_rfl) hs6 ?_
 refine zA (zp b4) 1 hs6 ?_
 refine zB 2 ⟨b4, 0, none⟩ (zi gw) (fun _ hS_ => (hS_.cellAt 0 rfl rfl)) hs6 ?_
 refine any_val (v := .int .i64 (IntKind.i64.wrap (208 * gw))) (v' := .int .i64 (208 * gw)) 3 (by kernel_rfl) (fun _ => by kernel_rfl) (congrArg (Value.int .i64) (wrap_i64 (by omega) (by omega))) hs6 ?_
 refine any_step 0 (by kernel_rfl) (by kernel_rfl) ?_
 refine zC00 hs6 (areas_spec B _) fun w7 hs9 => ?_
 refine ops_done (by kernel_rfl) ⟨hs9, ?_⟩
 refine any_val (v := .int .i64 (IntKind.i64.wrap (264 + (208 * gw)))) (v' := .int .i64 (264 + (208 * gw))) 4 (by kernel_rfl) (fun _ => by kernel_rfl) (congrArg (Value.int .i64) (wrap_i64 (by omega) (by omega))) hs9 ?_
 refine zA (zi (264 + (208 * gw))) 5 hs9 ?_
 refine any_done (by kernel_rfl) ?_
 refine hK5 _ _ ?_
 refine W.ret ?_
 have hs10 := St.tk0 hs9
 refine ret_of (zi (264 + (208 * gw))) (by kernel_rfl) ⟨_, ⟨rfl, rfl⟩, hs10⟩
theorem rwords_spec {gw gi gb : Int} (B : Nat) (w : World) : Spec Tryz.prog 47 #[(.agg #[(zi gw), (zi gi), (zi gb)])] B w [] (fun v H' => v = .int .i64 (wordsOf gw gi gb) ∧ H' = []) := by
 refine spec_Q Tryz.func47 rfl fun hs => ?_
 refine W.sr fun K1 hK1 => ?_
 refine zN [(zi gw), (zi gi), (zi gb)] 37 hs fun b4 w2 hs3 => ?_
 refine zE 1 (hK1 _ _ ?_)
 refine W.seq fun K5 hK5 => ?_
 refine W.sr fun K6 hK6 => ?_
 refine zG ⟨b4, 0, none⟩ [(zi gw), (zi gi), (zi gb)] (cells_sub (hs3.heapAt 0 rfl) rfl) ?_
 refine zC00 hs3 (rmay_spec (gw := gw) (gi := gi) (gb := gb) B _) fun w7 hs9 => ?_
 refine zE 1 (hK6 _ _ ?_)
 refine W.cond (!(decide (May gw gi gb))) (by kernel_rfl) (fun h10 => ?_) (fun h10 => ?_)
 ·
  have h10p : ¬ (May gw gi gb) := of_decide_eq_false (bnot_true h10)
  have hm : ¬ May gw gi gb := h10p
  refine W.sr fun K11 hK11 => ?_
  refine zE 1 (hK11 _ _ ?_)
  refine W.ret (ret_seq ?_)
  have hs12 := St.tk0 hs9
  refine ret_of (zi 0) (by kernel_rfl) ⟨_, ⟨congrArg (Value.int .i64) (by first | contradiction | (simp only [wordsOf, if_pos hm]; omega) | (simp only [wordsOf, if_neg hm]; done)), rfl⟩, hs12⟩
 have h10p : May gw gi gb := of_decide_eq_true (bnot_false h10)
 have hm : May gw gi gb := h10p
 have hm_ : (1 ≤ gw ∧ gw ≤ 4) ∧ (2 ≤ gi ∧ gi ≤ 64) ∧ (2 ≤ gb ∧ gb ≤ 512) := hm
 refine W.skip ?_
 refine hK5 _ _ ?_
 refine W.seq fun K13 hK13 => ?_
 have hs14 := hs9.drew
 refine W.regionD [(0, 0), (1, 1), (2, 2), (0, 0), (8, 8), (16, 16), (36, 36), (0, 0), (128, 128), (256, 256), (576, 576), (2047, 1024)] (fun w_ => St B w [] w_ [zb b4 37 [(zi gw), (zi gi), (zi gb)]]) (by kernel_rfl) hs14 ?_
 refine any_R 0 (by kernel_rfl) (fun _ hS_ => runs_loadAgg (ad := ⟨b4, 0, none⟩) (cs := [(zi gw), (zi gi), (zi gb)]) (by kernel_rfl) (cells_sub (hS_.heapAt 0 rfl) rfl)) hs14 ?_
 refine zA (.pointer (some ⟨b4, 1, none⟩)) 3 hs14 ?_
 refine zB 4 ⟨b4, 1, none⟩ (zi gi) (fun _ hS_ => (hS_.cellAt 0 rfl rfl)) hs14 ?_
 refine any_val (v := .int .i64 (IntKind.i64.wrap (16 * gi))) (v' := .int .i64 (16 * gi)) 5 (by kernel_rfl) (fun _ => by kernel_rfl) (congrArg (Value.int .i64) (wrap_i64 (by omega) (by omega))) hs14 ?_
 refine zA (.pointer (some ⟨b4, 2, none⟩)) 7 hs14 ?_
 refine zB 8 ⟨b4, 2, none⟩ (zi gb) (fun _ hS_ => (hS_.cellAt 0 rfl rfl)) hs14 ?_
 refine any_val (v := .int .i64 (IntKind.i64.wrap (8 * gb))) (v' := .int .i64 (8 * gb)) 9 (by kernel_rfl) (fun _ => by kernel_rfl) (congrArg (Value.int .i64) (wrap_i64 (by omega) (by omega))) hs14 ?_
 refine any_step 1 (by kernel_rfl) (by kernel_rfl) ?_
 refine zC00 hs14 (maps_spec (hm := hm) (gw := gw) (gi := gi) (gb := gb) B _) fun w15 hs17 => ?_
 refine ops_done (by kernel_rfl) ⟨hs17, ?_⟩
 refine any_val (v := .int .i64 (IntKind.i64.wrap ((264 + 208 * gw) + 16))) (v' := .int .i64 ((264 + 208 * gw) + 16)) 2 (by kernel_rfl) (fun _ => by kernel_rfl) (congrArg (Value.int .i64) (wrap_i64 (by omega) (by omega))) hs17 ?_
 refine any_val (v := .int .i64 (IntKind.i64.wrap (((264 + 208 * gw) + 16) + (16 * gi)))) (v' := .int .i64 (((264 + 208 * gw) + 16) + (16 * gi))) 6 (by kernel_rfl) (fun _ => by kernel_rfl) (congrArg (Value.int .i64) (wrap_i64 (by omega) (by omega))) hs17 ?_
 refine any_val (v := .int .i64 (IntKind.i64.wrap ((((264 + 208 * gw) + 16) + (16 * gi)) + (8 * gb)))) (v' := .int .i64 ((((264 + 208 * gw) + 16) + (16 * gi)) + (8 * gb))) 10 (by kernel_rfl) (fun _ => by kernel_rfl) (congrArg (Value.int .i64) (wrap_i64 (by omega) (by omega))) hs17 ?_
 refine zA (zi ((((264 + 208 * gw) + 16) + (16 * gi)) + (8 * gb))) 11 hs17 ?_
 refine any_done (by kernel_rfl) ?_
 refine hK13 _ _ ?_
 refine W.ret ?_
 have hs18 := St.tk0 hs17
 refine ret_of (zi ((((264 + 208 * gw) + 16) + (16 * gi)) + (8 * gb))) (by kernel_rfl) ⟨_, ⟨congrArg (Value.int .i64) (by first | contradiction | (simp only [wordsOf, if_pos hm]; omega) | (simp only [wordsOf, if_neg hm]; done)), rfl⟩, hs18⟩
theorem rmapat_spec {gw gi gb : Int} (B : Nat) (w : World) : Spec Tryz.prog 26 #[(.agg #[(zi gw), (zi gi), (zi gb)])] B w [] (fun v H' => v = .int .i64 (placeOf 6 gw gi gb 0) ∧ H' = []) := by
 refine spec_Q Tryz.func26 rfl fun hs => ?_
 refine W.sr fun K1 hK1 => ?_
 refine zN [(zi gw), (zi gi), (zi gb)] 37 hs fun b4 w2 hs3 => ?_
 refine zE 1 (hK1 _ _ ?_)
 refine W.seq fun K5 hK5 => ?_
 refine W.sr fun K6 hK6 => ?_
 refine zG ⟨b4, 0, none⟩ [(zi gw), (zi gi), (zi gb)] (cells_sub (hs3.heapAt 0 rfl) rfl) ?_
 refine zC00 hs3 (rmay_spec (gw := gw) (gi := gi) (gb := gb) B _) fun w7 hs9 => ?_
 refine zE 1 (hK6 _ _ ?_)
 refine W.cond (!(decide (May gw gi gb))) (by kernel_rfl) (fun h10 => ?_) (fun h10 => ?_)
 ·
  have h10p : ¬ (May gw gi gb) := of_decide_eq_false (bnot_true h10)
  have hm : ¬ May gw gi gb := h10p
  refine W.sr fun K11 hK11 => ?_
  refine zE 1 (hK11 _ _ ?_)
  refine W.ret (ret_seq ?_)
  have hs12 := St.tk0 hs9
  refine ret_of (zi (-1)) (by kernel_rfl) ⟨_, ⟨congrArg (Value.int .i64) (by first | contradiction | (simp only [placeOf, if_pos hm]; split <;> omega) | (simp only [placeOf, if_neg hm]; done) | (simp only [placeOf, if_pos hm]; omega)), rfl⟩, hs12⟩
 have h10p : May gw gi gb := of_decide_eq_true (bnot_false h10)
 have hm : May gw gi gb := h10p
 have hm_ : (1 ≤ gw ∧ gw ≤ 4) ∧ (2 ≤ gi ∧ gi ≤ 64) ∧ (2 ≤ gb ∧ gb ≤ 512) := hm
 refine W.skip ?_
 refine hK5 _ _ ?_
 refine W.sr fun K13 hK13 => ?_
 refine zG ⟨b4, 0, none⟩ [(zi gw), (zi gi), (zi gb)] (cells_sub (hs9.heapAt 0 rfl) rfl) ?_
 refine zC00 hs9 (maps_spec (hm := hm) (gw := gw) (gi := gi) (gb := gb) B _) fun w14 hs16 => ?_
 refine zE 1 (hK13 _ _ ?_)
 refine W.ret ?_
 have hs17 := St.tk0 hs16
 refine ret_of (zi (264 + 208 * gw)) (by kernel_rfl) ⟨_, ⟨congrArg (Value.int .i64) (by first | contradiction | (simp only [placeOf, if_pos hm]; split <;> omega) | (simp only [placeOf, if_neg hm]; done) | (simp only [placeOf, if_pos hm]; omega)), rfl⟩, hs17⟩
theorem rbmapat_spec {gw gi gb : Int} (B : Nat) (w : World) : Spec Tryz.prog 48 #[(.agg #[(zi gw), (zi gi), (zi gb)])] B w [] (fun v H' => v = .int .i64 (placeOf 7 gw gi gb 0) ∧ H' = []) := by
 refine spec_Q Tryz.func48 rfl fun hs => ?_
 refine W.sr fun K1 hK1 => ?_
 refine zN [(zi gw), (zi gi), (zi gb)] 37 hs fun b4 w2 hs3 => ?_
 refine zE 1 (hK1 _ _ ?_)
 refine W.seq fun K5 hK5 => ?_
 refine W.sr fun K6 hK6 => ?_
 refine zG ⟨b4, 0, none⟩ [(zi gw), (zi gi), (zi gb)] (cells_sub (hs3.heapAt 0 rfl) rfl) ?_
 refine zC00 hs3 (rmay_spec (gw := gw) (gi := gi) (gb := gb) B _) fun w7 hs9 => ?_
 refine zE 1 (hK6 _ _ ?_)
 refine W.cond (!(decide (May gw gi gb))) (by kernel_rfl) (fun h10 => ?_) (fun h10 => ?_)
 ·
  have h10p : ¬ (May gw gi gb) := of_decide_eq_false (bnot_true h10)
  have hm : ¬ May gw gi gb := h10p
  refine W.sr fun K11 hK11 => ?_
  refine zE 1 (hK11 _ _ ?_)
  refine W.ret (ret_seq ?_)
  have hs12 := St.tk0 hs9
  refine ret_of (zi (-1)) (by kernel_rfl) ⟨_, ⟨congrArg (Value.int .i64) (by first | contradiction | (simp only [placeOf, if_pos hm]; split <;> omega) | (simp only [placeOf, if_neg hm]; done) | (simp only [placeOf, if_pos hm]; omega)), rfl⟩, hs12⟩
 have h10p : May gw gi gb := of_decide_eq_true (bnot_false h10)
 have hm : May gw gi gb := h10p
 have hm_ : (1 ≤ gw ∧ gw ≤ 4) ∧ (2 ≤ gi ∧ gi ≤ 64) ∧ (2 ≤ gb ∧ gb ≤ 512) := hm
 refine W.skip ?_
 refine hK5 _ _ ?_
 refine W.sr fun K13 hK13 => ?_
 refine zG ⟨b4, 0, none⟩ [(zi gw), (zi gi), (zi gb)] (cells_sub (hs9.heapAt 0 rfl) rfl) ?_
 refine zC00 hs9 (maps_spec (hm := hm) (gw := gw) (gi := gi) (gb := gb) B _) fun w14 hs16 => ?_
 refine zI ((264 + 208 * gw) + 8) (wrap_i64 (by omega) (by omega)) ?_
 refine zE 1 (hK13 _ _ ?_)
 refine W.ret ?_
 have hs17 := St.tk0 hs16
 refine ret_of (zi ((264 + 208 * gw) + 8)) (by kernel_rfl) ⟨_, ⟨congrArg (Value.int .i64) (by first | contradiction | (simp only [placeOf, if_pos hm]; split <;> omega) | (simp only [placeOf, if_neg hm]; done) | (simp only [placeOf, if_pos hm]; omega)), rfl⟩, hs17⟩
theorem rinodeat_spec {gw gi gb n_ : Int} (B : Nat) (w : World) : Spec Tryz.prog 49 #[(.agg #[(zi gw), (zi gi), (zi gb)]), (zi n_)] B w [] (fun v H' => v = .int .i64 (placeOf 8 gw gi gb n_) ∧ H' = []) := by
 refine spec_Q Tryz.func49 rfl fun hs => ?_
 refine W.sr fun K1 hK1 => ?_
 refine zN [(zi gw), (zi gi), (zi gb)] 37 hs fun b4 w2 hs3 => ?_
 refine zE 1 (hK1 _ _ ?_)
 refine W.seq fun K5 hK5 => ?_
 refine W.sr fun K6 hK6 => ?_
 refine zG ⟨b4, 0, none⟩ [(zi gw), (zi gi), (zi gb)] (cells_sub (hs3.heapAt 0 rfl) rfl) ?_
 refine zC00 hs3 (rmay_spec (gw := gw) (gi := gi) (gb := gb) B _) fun w7 hs9 => ?_
 refine zR 2 ?_
 rcases Bool.eq_false_or_eq_true (!(decide (May gw gi gb))) with h10 | h10
 ·
  have h10p : ¬ (May gw gi gb) := of_decide_eq_false (bnot_true h10)
  refine zS 8 h10 ?_
  refine zS 7 h10 ?_
  refine zE 9 (hK6 _ _ ?_)
  refine W.cond_true true (by kernel_rfl) rfl ?_
  refine W.sr fun K11 hK11 => ?_
  refine zE 1 (hK11 _ _ ?_)
  refine W.ret (ret_seq ?_)
  have hs12 := St.tk0 hs9
  refine ret_of (zi (-1)) (by kernel_rfl) ⟨_, ⟨congrArg (Value.int .i64) (by by_cases hm : May gw gi gb <;> first | contradiction | (have hm_ : (1 ≤ gw ∧ gw ≤ 4) ∧ (2 ≤ gi ∧ gi ≤ 64) ∧ (2 ≤ gb ∧ gb ≤ 512) := hm; simp only [placeOf, if_pos hm]; split <;> omega) | (simp only [placeOf, if_neg hm]; done)), rfl⟩, hs12⟩
 have h10p : May gw gi gb := of_decide_eq_true (bnot_false h10)
 have hm : May gw gi gb := h10p
 have hm_ : (1 ≤ gw ∧ gw ≤ 4) ∧ (2 ≤ gi ∧ gi ≤ 64) ∧ (2 ≤ gb ∧ gb ≤ 512) := hm
 refine zS 8 h10 ?_
 refine zS 7 h10 ?_
 refine zR 4 ?_
 rcases Bool.eq_false_or_eq_true (decide (n_ < 0)) with h13 | h13
 ·
  have h13p := of_decide_eq_true h13
  refine zS 12 h13 ?_
  refine zS 10 h13 ?_
  refine zS 11 h13 ?_
  refine zE 5 (hK6 _ _ ?_)
  refine W.cond_true true (by kernel_rfl) rfl ?_
  refine W.sr fun K14 hK14 => ?_
  refine zE 1 (hK14 _ _ ?_)
  refine W.ret (ret_seq ?_)
  have hs15 := St.tk0 hs9
  refine ret_of (zi (-1)) (by kernel_rfl) ⟨_, ⟨congrArg (Value.int .i64) (by by_cases hm : May gw gi gb <;> first | contradiction | (have hm_ : (1 ≤ gw ∧ gw ≤ 4) ∧ (2 ≤ gi ∧ gi ≤ 64) ∧ (2 ≤ gb ∧ gb ≤ 512) := hm; simp only [placeOf, if_pos hm]; split <;> omega) | (simp only [placeOf, if_neg hm]; done)), rfl⟩, hs15⟩
 have h13p := of_decide_eq_false h13
 refine zS 12 h13 ?_
 refine zS 10 h13 ?_
 refine zS 11 h13 ?_
 refine zR 2 ?_
 refine zL ⟨b4, 1, none⟩ (zi gi) (hs9.cellAt 0 rfl rfl) ?_
 refine zE 2 (hK6 _ _ ?_)
 refine W.cond (decide (n_ ≥ gi)) (by kernel_rfl) (fun h16 => ?_) (fun h16 => ?_)
 ·
  have h16p := of_decide_eq_true h16
  refine W.sr fun K17 hK17 => ?_
  refine zE 1 (hK17 _ _ ?_)
  refine W.ret (ret_seq ?_)
  have hs18 := St.tk0 hs9
  refine ret_of (zi (-1)) (by kernel_rfl) ⟨_, ⟨congrArg (Value.int .i64) (by by_cases hm : May gw gi gb <;> first | contradiction | (have hm_ : (1 ≤ gw ∧ gw ≤ 4) ∧ (2 ≤ gi ∧ gi ≤ 64) ∧ (2 ≤ gb ∧ gb ≤ 512) := hm; simp only [placeOf, if_pos hm]; split <;> omega) | (simp only [placeOf, if_neg hm]; done)), rfl⟩, hs18⟩
 have h16p := of_decide_eq_false h16
 refine W.skip ?_
 refine hK5 _ _ ?_
 refine W.sr fun K19 hK19 => ?_
 refine zG ⟨b4, 0, none⟩ [(zi gw), (zi gi), (zi gb)] (cells_sub (hs9.heapAt 0 rfl) rfl) ?_
 refine zC00 hs9 (maps_spec (hm := hm) (gw := gw) (gi := gi) (gb := gb) B _) fun w20 hs22 => ?_
 refine zI ((264 + 208 * gw) + 16) (wrap_i64 (by omega) (by omega)) ?_
 refine zR 1 ?_
 refine zI (16 * n_) (wrap_i64 (by omega) (by omega)) ?_
 refine zI (((264 + 208 * gw) + 16) + (16 * n_)) (wrap_i64 (by omega) (by omega)) ?_
 refine zE 1 (hK19 _ _ ?_)
 refine W.ret ?_
 have hs23 := St.tk0 hs22
 refine ret_of (zi (((264 + 208 * gw) + 16) + (16 * n_))) (by kernel_rfl) ⟨_, ⟨congrArg (Value.int .i64) (by by_cases hm : May gw gi gb <;> first | contradiction | (have hm_ : (1 ≤ gw ∧ gw ≤ 4) ∧ (2 ≤ gi ∧ gi ≤ 64) ∧ (2 ≤ gb ∧ gb ≤ 512) := hm; simp only [placeOf, if_pos hm]; split <;> omega) | (simp only [placeOf, if_neg hm]; done)), rfl⟩, hs23⟩
end Go.Proofs.YtmmclabkkigiaaaGreat

set_option maxRecDepth 20000
namespace Go.Proofs.YtmmclabkkigiaaaGreat
open Go Go.RowKit
theorem format_spec {gw gi gb : Int} (B : Nat) (w : World) : Spec Tryz.prog 21 #[(.agg #[(zi gw), (zi gi), (zi gb)])] B w [] (fun v H' => ∃ a' c', v = .slice a' (fmtW gw gi gb).length c' ∧ H' = [kU64.row a' c' (fmtW gw gi gb)]) := by
 refine spec_Q Tryz.func21 rfl fun hs => ?_
 refine W.sr fun K1 hK1 => ?_
 refine zN [(zi gw), (zi gi), (zi gb)] 37 hs fun b4 w2 hs3 => ?_
 refine zE 1 (hK1 _ _ ?_)
 refine W.seq fun K5 hK5 => ?_
 refine W.sr fun K6 hK6 => ?_
 refine zG ⟨b4, 0, none⟩ [(zi gw), (zi gi), (zi gb)] (cells_sub (hs3.heapAt 0 rfl) rfl) ?_
 refine zC00 hs3 (rmay_spec (gw := gw) (gi := gi) (gb := gb) B _) fun w7 hs9 => ?_
 refine zE 1 (hK6 _ _ ?_)
 refine W.cond (!(decide (May gw gi gb))) (by kernel_rfl) (fun h10 => ?_) (fun h10 => ?_)
 ·
  have h10p : ¬ (May gw gi gb) := of_decide_eq_false (bnot_true h10)
  refine W.sr fun K11 hK11 => ?_
  refine zE 1 (hK11 _ _ ?_)
  refine W.ret (ret_seq ?_)
  have hs12 := St.tk0 hs9
  have hk := St.knil kU64 hs12
  have e_ : fmtW gw gi gb = [] := if_neg (by assumption)
  refine ret_of (.slice none 0 0) (by kernel_rfl) ⟨_, ⟨none, 0, by rw [e_]; rfl, by rw [e_]⟩, hk⟩
 have h10p : May gw gi gb := of_decide_eq_true (bnot_false h10)
 have hm : May gw gi gb := h10p
 have hm_ : (1 ≤ gw ∧ gw ≤ 4) ∧ (2 ≤ gi ∧ gi ≤ 64) ∧ (2 ≤ gb ∧ gb ≤ 512) := hm
 have hwd := words_may hm
 have hp6 := place6 hm
 have hp7 := place7 hm
 have hp8 := place8_in (n := 1) hm (by omega)
 refine W.skip ?_
 refine hK5 _ _ ?_
 refine W.sr fun K13 hK13 => ?_
 refine zG ⟨b4, 0, none⟩ [(zi gw), (zi gi), (zi gb)] (cells_sub (hs9.heapAt 0 rfl) rfl) ?_
 refine zC00 hs9 (rwords_spec (gw := gw) (gi := gi) (gb := gb) B _) fun w14 hs16 => ?_
 refine ops_makeSlice kU64 0 (z := (wordsOf gw gi gb)) (bytes := 8) ((wordsOf gw gi gb).toNat) (by omega) hs16 (by kernel_rfl) (by omega) (by unfold maxLen; omega) (fun b17 w18 hs19 => ?_)
 refine zE 1 (hK13 _ _ ?_)
 refine W.sr fun K20 hK20 => ?_
 refine zR 1 ?_
 have hk21 : 0 < (wordsOf gw gi gb).toNat := by omega
 have hk22 : 0 < (List.replicate ((wordsOf gw gi gb).toNat) (0 : Int)).length := by simp only [List.length_set, List.length_replicate]; exact hk21
 refine ops_R (runs_index (a := (some ⟨b17, 0, none⟩)) (n := (wordsOf gw gi gb).toNat) (z := 0) (size := 1) 0 rfl hk21 (kU64.addr (St.kcells kU64 hs19 0 rfl) hk22) (by kernel_rfl)) ?_
 refine ops_storeK kU64 (j := 0) (vs := [(zu 32762617960297063)]) 0 32762617960297063 hs19 hk22 (Nat.le_of_ble_eq_true rfl) (by simp) rfl rfl (by kernel_rfl) (fun w23 hs24 => ?_)
 refine zD (hK20 _ _ ?_)
 refine W.sr fun K26 hK26 => ?_
 refine zR 2 ?_
 refine zL ⟨b4, 0, none⟩ (zi gw) (hs24.cellAt 1 rfl rfl) ?_
 refine zI gw (wrap_u64 (by omega) (by omega)) ?_
 have hk27 : 1 < (wordsOf gw gi gb).toNat := by omega
 have hk28 : 1 < ((List.replicate ((wordsOf gw gi gb).toNat) (0 : Int)).set 0 32762617960297063).length := by simp only [List.length_set, List.length_replicate]; exact hk27
 refine ops_R (runs_index (a := (some ⟨b17, 0, none⟩)) (n := (wordsOf gw gi gb).toNat) (z := 1) (size := 1) 1 rfl hk27 (kU64.addr (St.kcells kU64 hs24 0 rfl) hk28) (by kernel_rfl)) ?_
 refine ops_storeK kU64 (j := 0) (vs := [(zu gw)]) 0 gw hs24 hk28 (Nat.le_of_ble_eq_true rfl) (by simp) rfl rfl (by kernel_rfl) (fun w29 hs30 => ?_)
 refine zD (hK26 _ _ ?_)
 refine W.sr fun K32 hK32 => ?_
 refine zR 2 ?_
 refine zL ⟨b4, 1, none⟩ (zi gi) (hs30.cellAt 1 rfl rfl) ?_
 refine zI gi (wrap_u64 (by omega) (by omega)) ?_
 have hk33 : 2 < (wordsOf gw gi gb).toNat := by omega
 have hk34 : 2 < (((List.replicate ((wordsOf gw gi gb).toNat) (0 : Int)).set 0 32762617960297063).set 1 gw).length := by simp only [List.length_set, List.length_replicate]; exact hk33
 refine ops_R (runs_index (a := (some ⟨b17, 0, none⟩)) (n := (wordsOf gw gi gb).toNat) (z := 2) (size := 1) 2 rfl hk33 (kU64.addr (St.kcells kU64 hs30 0 rfl) hk34) (by kernel_rfl)) ?_
 refine ops_storeK kU64 (j := 0) (vs := [(zu gi)]) 0 gi hs30 hk34 (Nat.le_of_ble_eq_true rfl) (by simp) rfl rfl (by kernel_rfl) (fun w35 hs36 => ?_)
 refine zD (hK32 _ _ ?_)
 refine W.sr fun K38 hK38 => ?_
 refine zR 2 ?_
 refine zL ⟨b4, 2, none⟩ (zi gb) (hs36.cellAt 1 rfl rfl) ?_
 refine zI gb (wrap_u64 (by omega) (by omega)) ?_
 have hk39 : 3 < (wordsOf gw gi gb).toNat := by omega
 have hk40 : 3 < ((((List.replicate ((wordsOf gw gi gb).toNat) (0 : Int)).set 0 32762617960297063).set 1 gw).set 2 gi).length := by simp only [List.length_set, List.length_replicate]; exact hk39
 refine ops_R (runs_index (a := (some ⟨b17, 0, none⟩)) (n := (wordsOf gw gi gb).toNat) (z := 3) (size := 1) 3 rfl hk39 (kU64.addr (St.kcells kU64 hs36 0 rfl) hk40) (by kernel_rfl)) ?_
 refine ops_storeK kU64 (j := 0) (vs := [(zu gb)]) 0 gb hs36 hk40 (Nat.le_of_ble_eq_true rfl) (by simp) rfl rfl (by kernel_rfl) (fun w41 hs42 => ?_)
 refine zD (hK38 _ _ ?_)
 refine W.sr fun K44 hK44 => ?_
 refine zR 1 ?_
 refine zG ⟨b4, 0, none⟩ [(zi gw), (zi gi), (zi gb)] (cells_sub (hs42.heapAt 1 rfl) rfl) ?_
 refine zC00 hs42 (rmapat_spec (gw := gw) (gi := gi) (gb := gb) B _) fun w45 hs47 => ?_
 have hk48 : (placeOf 6 gw gi gb 0).toNat < (wordsOf gw gi gb).toNat := by omega
 have hk49 : (placeOf 6 gw gi gb 0).toNat < (((((List.replicate ((wordsOf gw gi gb).toNat) (0 : Int)).set 0 32762617960297063).set 1 gw).set 2 gi).set 3 gb).length := by simp only [List.length_set, List.length_replicate]; exact hk48
 refine ops_R (runs_index (a := (some ⟨b17, 0, none⟩)) (n := (wordsOf gw gi gb).toNat) (z := (placeOf 6 gw gi gb 0)) (size := 1) ((placeOf 6 gw gi gb 0).toNat) (by omega) hk48 (kU64.addr (St.kcells kU64 hs47 0 rfl) hk49) (by kernel_rfl)) ?_
 refine ops_storeK kU64 (j := 0) (vs := [(zu 3)]) 0 3 hs47 hk49 (Nat.le_of_ble_eq_true rfl) (by simp) rfl rfl (by kernel_rfl) (fun w50 hs51 => ?_)
 refine zD (hK44 _ _ ?_)
 refine W.sr fun K53 hK53 => ?_
 refine zR 1 ?_
 refine zG ⟨b4, 0, none⟩ [(zi gw), (zi gi), (zi gb)] (cells_sub (hs51.heapAt 1 rfl) rfl) ?_
 refine zC00 hs51 (rbmapat_spec (gw := gw) (gi := gi) (gb := gb) B _) fun w54 hs56 => ?_
 have hk57 : (placeOf 7 gw gi gb 0).toNat < (wordsOf gw gi gb).toNat := by omega
 have hk58 : (placeOf 7 gw gi gb 0).toNat < ((((((List.replicate ((wordsOf gw gi gb).toNat) (0 : Int)).set 0 32762617960297063).set 1 gw).set 2 gi).set 3 gb).set ((placeOf 6 gw gi gb 0).toNat) 3).length := by simp only [List.length_set, List.length_replicate]; exact hk57
 refine ops_R (runs_index (a := (some ⟨b17, 0, none⟩)) (n := (wordsOf gw gi gb).toNat) (z := (placeOf 7 gw gi gb 0)) (size := 1) ((placeOf 7 gw gi gb 0).toNat) (by omega) hk57 (kU64.addr (St.kcells kU64 hs56 0 rfl) hk58) (by kernel_rfl)) ?_
 refine ops_storeK kU64 (j := 0) (vs := [(zu 1)]) 0 1 hs56 hk58 (Nat.le_of_ble_eq_true rfl) (by simp) rfl rfl (by kernel_rfl) (fun w59 hs60 => ?_)
 refine zD (hK53 _ _ ?_)
 refine W.sr fun K62 hK62 => ?_
 refine zR 1 ?_
 refine zG ⟨b4, 0, none⟩ [(zi gw), (zi gi), (zi gb)] (cells_sub (hs60.heapAt 1 rfl) rfl) ?_
 refine zC00 hs60 (rinodeat_spec (gw := gw) (gi := gi) (gb := gb) (n_ := 1) B _) fun w63 hs65 => ?_
 have hk66 : (placeOf 8 gw gi gb 1).toNat < (wordsOf gw gi gb).toNat := by omega
 have hk67 : (placeOf 8 gw gi gb 1).toNat < (((((((List.replicate ((wordsOf gw gi gb).toNat) (0 : Int)).set 0 32762617960297063).set 1 gw).set 2 gi).set 3 gb).set ((placeOf 6 gw gi gb 0).toNat) 3).set ((placeOf 7 gw gi gb 0).toNat) 1).length := by simp only [List.length_set, List.length_replicate]; exact hk66
 refine ops_R (runs_index (a := (some ⟨b17, 0, none⟩)) (n := (wordsOf gw gi gb).toNat) (z := (placeOf 8 gw gi gb 1)) (size := 1) ((placeOf 8 gw gi gb 1).toNat) (by omega) hk66 (kU64.addr (St.kcells kU64 hs65 0 rfl) hk67) (by kernel_rfl)) ?_
 refine ops_storeK kU64 (j := 0) (vs := [(zu 2)]) 0 2 hs65 hk67 (Nat.le_of_ble_eq_true rfl) (by simp) rfl rfl (by kernel_rfl) (fun w68 hs69 => ?_)
 refine zD (hK62 _ _ ?_)
 refine W.sr fun K71 hK71 => ?_
 refine zR 1 ?_
 refine zG ⟨b4, 0, none⟩ [(zi gw), (zi gi), (zi gb)] (cells_sub (hs69.heapAt 1 rfl) rfl) ?_
 refine zC00 hs69 (rinodeat_spec (gw := gw) (gi := gi) (gb := gb) (n_ := 1) B _) fun w72 hs74 => ?_
 refine zI ((placeOf 8 gw gi gb 1) + 1) (wrap_i64 (by omega) (by omega)) ?_
 have hk75 : ((placeOf 8 gw gi gb 1) + 1).toNat < (wordsOf gw gi gb).toNat := by omega
 have hk76 : ((placeOf 8 gw gi gb 1) + 1).toNat < ((((((((List.replicate ((wordsOf gw gi gb).toNat) (0 : Int)).set 0 32762617960297063).set 1 gw).set 2 gi).set 3 gb).set ((placeOf 6 gw gi gb 0).toNat) 3).set ((placeOf 7 gw gi gb 0).toNat) 1).set ((placeOf 8 gw gi gb 1).toNat) 2).length := by simp only [List.length_set, List.length_replicate]; exact hk75
 refine ops_R (runs_index (a := (some ⟨b17, 0, none⟩)) (n := (wordsOf gw gi gb).toNat) (z := ((placeOf 8 gw gi gb 1) + 1)) (size := 1) (((placeOf 8 gw gi gb 1) + 1).toNat) (by omega) hk75 (kU64.addr (St.kcells kU64 hs74 0 rfl) hk76) (by kernel_rfl)) ?_
 refine ops_storeK kU64 (j := 0) (vs := [(zu 1)]) 0 1 hs74 hk76 (Nat.le_of_ble_eq_true rfl) (by simp) rfl rfl (by kernel_rfl) (fun w77 hs78 => ?_)
 refine zD (hK71 _ _ ?_)
 refine W.sr fun K80 hK80 => ?_
 refine zE 2 (hK80 _ _ ?_)
 refine W.ret ?_
 have hs81 := St.tk1 hs78
 have e_ : (((((((((List.replicate ((wordsOf gw gi gb).toNat) (0 : Int)).set 0 32762617960297063).set 1 gw).set 2 gi).set 3 gb).set ((placeOf 6 gw gi gb 0).toNat) 3).set ((placeOf 7 gw gi gb 0).toNat) 1).set ((placeOf 8 gw gi gb 1).toNat) 2).set (((placeOf 8 gw gi gb 1) + 1).toNat) 1) = fmtW gw gi gb := (if_pos hm).symm
 have hs_ := hs81
 rw [e_] at hs_
 refine ret_of (.slice (some ⟨b17, 0, none⟩) ((wordsOf gw gi gb).toNat) ((wordsOf gw gi gb).toNat)) (by kernel_rfl) ⟨_, ⟨(some ⟨b17, 0, none⟩), (wordsOf gw gi gb).toNat, by rw [fmtW_len], rfl⟩, hs_⟩
theorem small_spec {x_ y_ : Int} (B : Nat) (w : World) (hx : 0 ≤ x_ ∧ x_ ≤ 255) (hy : 0 ≤ y_ ∧ y_ ≤ 255) : Spec Tryz.prog 20 #[(.int .u8 x_), (.int .u8 y_)] B w [] (fun v H' => v = .agg #[.int .i64 1, .int .i64 (2 + x_ % 20), .int .i64 (2 + y_ % 60)] ∧ H' = []) := by
 refine spec_Q Tryz.func20 rfl fun hs => ?_
 refine W.sr fun K1 hK1 => ?_
 refine zN [(zi 0), (zi 0), (zi 0)] 24 hs fun b4 w2 hs3 => ?_
 refine zD (hK1 _ _ ?_)
 refine W.sr fun K5 hK5 => ?_
 refine zR 1 ?_
 refine zI x_ (wrap_i64 (by omega) (by omega)) ?_
 obtain ⟨r6, hr7, hl8, he9⟩ := rem_nat (x := x_) (y := 20) (by omega) (by omega)
 refine ops_R (v := .int .i64 (r6 : Int)) (runs_rem (k := .i64) (a := x_) (b := 20) (by kernel_rfl) (by omega) hr7) ?_
 refine zI (2 + (r6 : Int)) (wrap_i64 (by omega) (by omega)) ?_
 refine zR 1 ?_
 refine zI y_ (wrap_i64 (by omega) (by omega)) ?_
 obtain ⟨r10, hr11, hl12, he13⟩ := rem_nat (x := y_) (y := 60) (by omega) (by omega)
 refine ops_R (v := .int .i64 (r10 : Int)) (runs_rem (k := .i64) (a := y_) (b := 60) (by kernel_rfl) (by omega) hr11) ?_
 refine zI (2 + (r10 : Int)) (wrap_i64 (by omega) (by omega)) ?_
 refine zR 1 ?_
 refine zT 0 [(zi 1), (zi (2 + (r6 : Int))), (zi (2 + (r10 : Int)))] [(zi 1), (zi (2 + (r6 : Int))), (zi (2 + (r10 : Int)))] hs3 fun w14 hs16 => ?_
 refine zD (hK5 _ _ ?_)
 refine W.ret ?_
 have hs17 := St.tk0 hs16
 refine ret_of (.agg #[(zi 1), (zi (2 + (r6 : Int))), (zi (2 + (r10 : Int)))]) (results_cell (ad := ⟨b4, 0, none⟩) (cs := [(zi 1), (zi (2 + (r6 : Int))), (zi (2 + (r10 : Int)))]) rfl (by kernel_rfl) (by kernel_rfl) (cells_sub (hs16.heapAt 0 rfl) rfl)) ⟨_, ⟨by simp only [*], rfl⟩, hs17⟩
end Go.Proofs.YtmmclabkkigiaaaGreat

set_option maxRecDepth 20000
namespace Go.Proofs.YtmmclabkkigiaaaGreat
open Go Go.RowKit
theorem blockat_spec {gw gi gb n_ : Int} (B : Nat) (w : World) : Spec Tryz.prog 99 #[(.agg #[(zi gw), (zi gi), (zi gb)]), (zi n_)] B w [] (fun v H' => v = .int .i64 (placeOf 9 gw gi gb n_) ∧ H' = []) := by
 refine spec_Q Tryz.func99 rfl fun hs => ?_
 refine W.sr fun K1 hK1 => ?_
 refine zN [(zi gw), (zi gi), (zi gb)] 24 hs fun b4 w2 hs3 => ?_
 refine zE 1 (hK1 _ _ ?_)
 refine W.sr fun K5 hK5 => ?_
 refine zG ⟨b4, 0, none⟩ [(zi gw), (zi gi), (zi gb)] (cells_sub (hs3.heapAt 0 rfl) rfl) ?_
 refine zR 1 ?_
 refine zC00 hs3 (place9_spec (gw := gw) (gi := gi) (gb := gb) (n_ := n_) B _) fun w6 hs8 => ?_
 refine zE 1 (hK5 _ _ ?_)
 refine W.ret ?_
 have hs9 := St.tk0 hs8
 refine ret_of (zi (placeOf 9 gw gi gb n_)) (by kernel_rfl) ⟨_, ⟨rfl, rfl⟩, hs9⟩
theorem rblockat_spec {gw gi gb n_ : Int} (B : Nat) (w : World) : Spec Tryz.prog 58 #[(.agg #[(zi gw), (zi gi), (zi gb)]), (zi n_)] B w [] (fun v H' => v = .int .i64 (placeOf 9 gw gi gb n_) ∧ H' = []) := by
 refine spec_Q Tryz.func58 rfl fun hs => ?_
 refine W.sr fun K1 hK1 => ?_
 refine zN [(zi gw), (zi gi), (zi gb)] 37 hs fun b4 w2 hs3 => ?_
 refine zE 1 (hK1 _ _ ?_)
 refine W.seq fun K5 hK5 => ?_
 refine W.sr fun K6 hK6 => ?_
 refine zG ⟨b4, 0, none⟩ [(zi gw), (zi gi), (zi gb)] (cells_sub (hs3.heapAt 0 rfl) rfl) ?_
 refine zC00 hs3 (rmay_spec (gw := gw) (gi := gi) (gb := gb) B _) fun w7 hs9 => ?_
 refine zR 2 ?_
 rcases Bool.eq_false_or_eq_true (!(decide (May gw gi gb))) with h10 | h10
 ·
  have h10p : ¬ (May gw gi gb) := of_decide_eq_false (bnot_true h10)
  refine zS 8 h10 ?_
  refine zS 7 h10 ?_
  refine zE 9 (hK6 _ _ ?_)
  refine W.cond_true true (by kernel_rfl) rfl ?_
  refine W.sr fun K11 hK11 => ?_
  refine zE 1 (hK11 _ _ ?_)
  refine W.ret (ret_seq ?_)
  have hs12 := St.tk0 hs9
  refine ret_of (zi (-1)) (by kernel_rfl) ⟨_, ⟨congrArg (Value.int .i64) (by by_cases hm : May gw gi gb <;> first | contradiction | (have hm_ : (1 ≤ gw ∧ gw ≤ 4) ∧ (2 ≤ gi ∧ gi ≤ 64) ∧ (2 ≤ gb ∧ gb ≤ 512) := hm; simp only [placeOf, if_pos hm]; split <;> omega) | (simp only [placeOf, if_neg hm]; done)), rfl⟩, hs12⟩
 have h10p : May gw gi gb := of_decide_eq_true (bnot_false h10)
 have hm : May gw gi gb := h10p
 have hm_ : (1 ≤ gw ∧ gw ≤ 4) ∧ (2 ≤ gi ∧ gi ≤ 64) ∧ (2 ≤ gb ∧ gb ≤ 512) := hm
 refine zS 8 h10 ?_
 refine zS 7 h10 ?_
 refine zR 4 ?_
 rcases Bool.eq_false_or_eq_true (decide (n_ < 0)) with h13 | h13
 ·
  have h13p := of_decide_eq_true h13
  refine zS 12 h13 ?_
  refine zS 10 h13 ?_
  refine zS 11 h13 ?_
  refine zE 5 (hK6 _ _ ?_)
  refine W.cond_true true (by kernel_rfl) rfl ?_
  refine W.sr fun K14 hK14 => ?_
  refine zE 1 (hK14 _ _ ?_)
  refine W.ret (ret_seq ?_)
  have hs15 := St.tk0 hs9
  refine ret_of (zi (-1)) (by kernel_rfl) ⟨_, ⟨congrArg (Value.int .i64) (by by_cases hm : May gw gi gb <;> first | contradiction | (have hm_ : (1 ≤ gw ∧ gw ≤ 4) ∧ (2 ≤ gi ∧ gi ≤ 64) ∧ (2 ≤ gb ∧ gb ≤ 512) := hm; simp only [placeOf, if_pos hm]; split <;> omega) | (simp only [placeOf, if_neg hm]; done)), rfl⟩, hs15⟩
 have h13p := of_decide_eq_false h13
 refine zS 12 h13 ?_
 refine zS 10 h13 ?_
 refine zS 11 h13 ?_
 refine zR 2 ?_
 refine zL ⟨b4, 2, none⟩ (zi gb) (hs9.cellAt 0 rfl rfl) ?_
 refine zE 2 (hK6 _ _ ?_)
 refine W.cond (decide (n_ ≥ gb)) (by kernel_rfl) (fun h16 => ?_) (fun h16 => ?_)
 ·
  have h16p := of_decide_eq_true h16
  refine W.sr fun K17 hK17 => ?_
  refine zE 1 (hK17 _ _ ?_)
  refine W.ret (ret_seq ?_)
  have hs18 := St.tk0 hs9
  refine ret_of (zi (-1)) (by kernel_rfl) ⟨_, ⟨congrArg (Value.int .i64) (by by_cases hm : May gw gi gb <;> first | contradiction | (have hm_ : (1 ≤ gw ∧ gw ≤ 4) ∧ (2 ≤ gi ∧ gi ≤ 64) ∧ (2 ≤ gb ∧ gb ≤ 512) := hm; simp only [placeOf, if_pos hm]; split <;> omega) | (simp only [placeOf, if_neg hm]; done)), rfl⟩, hs18⟩
 have h16p := of_decide_eq_false h16
 refine W.skip ?_
 refine hK5 _ _ ?_
 refine W.seq fun K19 hK19 => ?_
 have hs20 := hs9.drew
 refine W.regionD [(0, 0), (1, 1), (2, 2), (0, 0), (8, 8), (16, 16), (36, 36), (0, 0), (128, 128), (320, 320), (1023, 512)] (fun w_ => St B w [] w_ [zb b4 37 [(zi gw), (zi gi), (zi gb)]]) (by kernel_rfl) hs20 ?_
 refine any_R 0 (by kernel_rfl) (fun _ hS_ => runs_loadAgg (ad := ⟨b4, 0, none⟩) (cs := [(zi gw), (zi gi), (zi gb)]) (by kernel_rfl) (cells_sub (hS_.heapAt 0 rfl) rfl)) hs20 ?_
 refine zA (.pointer (some ⟨b4, 1, none⟩)) 3 hs20 ?_
 refine zB 4 ⟨b4, 1, none⟩ (zi gi) (fun _ hS_ => (hS_.cellAt 0 rfl rfl)) hs20 ?_
 refine any_val (v := .int .i64 (IntKind.i64.wrap (16 * gi))) (v' := .int .i64 (16 * gi)) 5 (by kernel_rfl) (fun _ => by kernel_rfl) (congrArg (Value.int .i64) (wrap_i64 (by omega) (by omega))) hs20 ?_
 refine zA (zi n_) 7 hs20 ?_
 refine any_val (v := .int .i64 (IntKind.i64.wrap (8 * n_))) (v' := .int .i64 (8 * n_)) 8 (by kernel_rfl) (fun _ => by kernel_rfl) (congrArg (Value.int .i64) (wrap_i64 (by omega) (by omega))) hs20 ?_
 refine any_step 1 (by kernel_rfl) (by kernel_rfl) ?_
 refine zC00 hs20 (maps_spec (hm := hm) (gw := gw) (gi := gi) (gb := gb) B _) fun w21 hs23 => ?_
 refine ops_done (by kernel_rfl) ⟨hs23, ?_⟩
 refine any_val (v := .int .i64 (IntKind.i64.wrap ((264 + 208 * gw) + 16))) (v' := .int .i64 ((264 + 208 * gw) + 16)) 2 (by kernel_rfl) (fun _ => by kernel_rfl) (congrArg (Value.int .i64) (wrap_i64 (by omega) (by omega))) hs23 ?_
 refine any_val (v := .int .i64 (IntKind.i64.wrap (((264 + 208 * gw) + 16) + (16 * gi)))) (v' := .int .i64 (((264 + 208 * gw) + 16) + (16 * gi))) 6 (by kernel_rfl) (fun _ => by kernel_rfl) (congrArg (Value.int .i64) (wrap_i64 (by omega) (by omega))) hs23 ?_
 refine any_val (v := .int .i64 (IntKind.i64.wrap ((((264 + 208 * gw) + 16) + (16 * gi)) + (8 * n_)))) (v' := .int .i64 ((((264 + 208 * gw) + 16) + (16 * gi)) + (8 * n_))) 9 (by kernel_rfl) (fun _ => by kernel_rfl) (congrArg (Value.int .i64) (wrap_i64 (by omega) (by omega))) hs23 ?_
 refine zA (zi ((((264 + 208 * gw) + 16) + (16 * gi)) + (8 * n_))) 10 hs23 ?_
 refine any_done (by kernel_rfl) ?_
 refine hK19 _ _ ?_
 refine W.ret ?_
 have hs24 := St.tk0 hs23
 refine ret_of (zi ((((264 + 208 * gw) + 16) + (16 * gi)) + (8 * n_))) (by kernel_rfl) ⟨_, ⟨congrArg (Value.int .i64) (by by_cases hm : May gw gi gb <;> first | contradiction | (have hm_ : (1 ≤ gw ∧ gw ≤ 4) ∧ (2 ≤ gi ∧ gi ≤ 64) ∧ (2 ≤ gb ∧ gb ≤ 512) := hm; simp only [placeOf, if_pos hm]; split <;> omega) | (simp only [placeOf, if_neg hm]; done)), rfl⟩, hs24⟩
end Go.Proofs.YtmmclabkkigiaaaGreat

namespace Go.Proofs.YtmmclabkkigiaaaGreat
open Go Go.RowKit
theorem vlook_vset {l : List (Int × Int)} {k v k' : Int} : vlook (vset l k v) k' = if k' = k then some v else vlook l k' := by
  cases hl : vlook l k with
  | none =>
    rw [vset_none hl]
    unfold vlook
    rw [List.find?_append]
    by_cases h : k' = k
    · subst h
      have h0 : l.find? (fun p => p.1 == k') = none := by
        unfold vlook at hl
        simpa using hl
      simp [h0]
    · have : ((k == k') : Bool) = false := by simpa using fun e => h e.symm
      simp [this, h]
  | some x =>
    have e : vset l k v = l.map fun p => if p.1 = k then (k, v) else p := by unfold vset; rw [hl]
    rw [e]
    clear e
    unfold vlook at hl ⊢
    induction l with
    | nil => simp at hl
    | cons p l ih =>
      by_cases hp : p.1 = k
      · by_cases h : k' = k
        · subst h; simp [hp]
        · have h1 : ((k == k') : Bool) = false := by simpa using fun e => h e.symm
          simp only [List.map_cons, hp, if_true, List.find?_cons, h1, h, if_false]
          have : ∀ m : List (Int × Int), (m.map fun p => if p.1 = k then (k, v) else p).find? (fun p => p.1 == k') = m.find? (fun p => p.1 == k') := by
            intro m
            induction m with
            | nil => rfl
            | cons q m ihm =>
              by_cases hq : q.1 = k
              · simp only [List.map_cons, hq, if_true, List.find?_cons, h1, ihm]
              · simp only [List.map_cons, hq, if_false, List.find?_cons, ihm]
          rw [this]
          try rfl
      · have hp' : ((p.1 == k) : Bool) = false := by simpa using hp
        simp only [List.find?_cons, hp'] at hl
        simp only [List.map_cons, hp, if_false, List.find?_cons]
        cases hq : (p.1 == k') with
        | true =>
          have : ¬ k' = k := by
            intro e; subst e; simp at hq; exact hp hq
          simp [this]
        | false =>
          have := ih (by simpa using hl)
          simpa using this
theorem vflat_get0 : ∀ {l : List (Int × Int)} {img : List Int}, Keys l → inside img.length l → ∀ {k : Nat}, k < img.length → (vflat img l).getD k 0 = (vlook l (k : Int)).getD (img.getD k 0)
  | [], img, _, _, k, hk => by simp [vflat, vlook]
  | p :: l, img, hn, hi, k, hk => by
    have hn' : Keys l := by simp only [Keys, List.map_cons, List.nodup_cons] at hn; exact hn.2
    have hp := hi p (List.mem_cons_self ..)
    have h1 := vflat_get0 (l := l) (img := img.set p.1.toNat p.2) hn' (by rw [List.length_set]; exact fun q hq => hi q (List.mem_cons_of_mem _ hq)) (k := k) (by simpa using hk)
    have e : vflat img (p :: l) = vflat (img.set p.1.toNat p.2) l := rfl
    rw [e, h1]
    by_cases h : p.1 = (k : Int)
    · have hnone : vlook l (k : Int) = none := by
        unfold vlook
        rw [Option.map_eq_none_iff, List.find?_eq_none]
        intro q hq hk'
        simp only [Keys, List.map_cons, List.nodup_cons, List.mem_map, not_exists, not_and] at hn
        exact hn.1 q hq (by rw [h]; simpa using hk')
      rw [hnone]
      have e2 : p.1.toNat = k := by omega
      rw [e2]
      simp [vlook, h, hk]
    · have e2 : ¬ p.1.toNat = k := by omega
      have e3 : ((p.1 == (k : Int)) : Bool) = false := by simpa using h
      have e4 : vlook (p :: l) (k : Int) = vlook l (k : Int) := by simp only [vlook, List.find?_cons, e3]
      rw [e4]
      congr 1
      simp [List.getD, List.getElem?_set_ne e2]
theorem vflat_get {l : List (Int × Int)} {img : List Int} (h : VOk img l) {k : Nat} (hk : k < img.length) : (vflat img l).getD k 0 = vget img l (k : Int) := by
  rw [vflat_get0 h.keys h.inside hk]
  simp only [vget]
  rw [if_pos (by omega)]
  rfl
theorem vget_nil {img : List Int} {k : Nat} (hk : k < img.length) : vget img [] (k : Int) = img.getD k 0 := by
  simp only [vget]
  rw [if_pos (by omega)]
  rfl
theorem vput_len (img : List Int) (l : List (Int × Int)) (a x : Int) : (vput img l a x).2.length ≤ l.length + 1 := by
  unfold vput
  split
  · cases hl : vlook l a with
    | some y => simp only; rw [vset_length_some (by rw [hl]; rfl)]; omega
    | none =>
      simp only
      split
      · simp
      · rw [vset_none hl]; simp
  · simp
theorem vget_vset {img : List Int} {l : List (Int × Int)} {a x k : Int} (h : 0 ≤ a ∧ a < img.length) : vget img (vset l a x) k = if k = a then x else vget img l k := by
  simp only [vget, vlook_vset]
  by_cases hk : k = a
  · subst hk; simp [h]
  · simp [hk]
end Go.Proofs.YtmmclabkkigiaaaGreat

set_option maxRecDepth 20000
set_option maxHeartbeats 1000000
namespace Go.Proofs.YtmmclabkkigiaaaGreat
open Go Go.RowKit
theorem max5_spec {ma : Option Addr} {mc : Nat} {a_ b_ c_ d_ e_ : Int} (B : Nat) (w : World) (hm : CellsAt ma (kU64.cells [a_, b_, c_, d_, e_]) w) : Spec Tryz.prog 81 #[(.slice ma 5 mc)] B w [] (fun v H' => v = .int .u64 (mx (mx (mx (mx a_ b_) c_) d_) e_) ∧ H' = []) := by
 refine spec_Q Tryz.func81 rfl fun hs => ?_
 refine W.sr fun K1 hK1 => ?_
 refine zE 1 (hK1 _ _ ?_)
 refine W.seq fun K2 hK2 => ?_
 refine W.sr fun K3 hK3 => ?_
 refine zE 3 (hK3 _ _ ?_)
 refine W.cond_false false (by kernel_rfl) rfl ?_
 refine W.skip ?_
 refine hK2 _ _ ?_
 refine W.sr fun K4 hK4 => ?_
 refine zR 1 ?_
 have hk5 : 0 < 5 := by omega
 refine ops_R (runs_index (a := ma) (n := 5) (z := 0) (size := 1) 0 rfl hk5 (kU64.addr (hs.oldCells hm) hk5) (by kernel_rfl)) ?_
 refine zL ((adr ma (0 * 1)).add 0) (zu (([a_, b_, c_, d_, e_]).getD 0 0)) (kU64.at (hs.oldCells hm) hk5 0 0 rfl) ?_
 refine zE 1 (hK4 _ _ ?_)
 refine W.seq fun K6 hK6 => ?_
 refine W.sr fun K7 hK7 => ?_
 refine zE 1 (hK7 _ _ ?_)
 refine W.block ?_
 refine W.loop_start ?_
 refine loopAt_round ?_
 refine W.seq fun K8 hK8 => ?_
 refine W.sr fun K9 hK9 => ?_
 refine zE 4 (hK9 _ _ ?_)
 refine W.cond_true true (by kernel_rfl) rfl ?_
 refine W.skip ?_
 refine hK8 _ _ ?_
 refine W.seq fun K10 hK10 => ?_
 refine W.block ?_
 refine W.region ?_
 refine zR 3 ?_
 have hk11 : 1 < 5 := by omega
 refine ops_R (runs_index (a := ma) (n := 5) (z := 1) (size := 1) 1 rfl hk11 (kU64.addr (hs.oldCells hm) hk11) (by kernel_rfl)) ?_
 refine zL ((adr ma (1 * 1)).add 0) (zu (([a_, b_, c_, d_, e_]).getD 1 0)) (kU64.at (hs.oldCells hm) hk11 0 0 rfl) ?_
 refine zE 2 ?_
 refine normal_block ?_
 refine hK10 _ _ ?_
 refine W.region ?_
 refine zE 3 ?_
 refine loopAt_next ?_
 refine loopAt_round ?_
 refine W.seq fun K12 hK12 => ?_
 refine W.sr fun K13 hK13 => ?_
 refine zE 4 (hK13 _ _ ?_)
 refine W.cond_true true (by kernel_rfl) rfl ?_
 refine W.skip ?_
 refine hK12 _ _ ?_
 refine W.seq fun K14 hK14 => ?_
 refine W.block ?_
 refine W.region ?_
 refine zR 3 ?_
 have hk15 : 2 < 5 := by omega
 refine ops_R (runs_index (a := ma) (n := 5) (z := 2) (size := 1) 2 rfl hk15 (kU64.addr (hs.oldCells hm) hk15) (by kernel_rfl)) ?_
 refine zL ((adr ma (2 * 1)).add 0) (zu (([a_, b_, c_, d_, e_]).getD 2 0)) (kU64.at (hs.oldCells hm) hk15 0 0 rfl) ?_
 refine zE 2 ?_
 refine normal_block ?_
 refine hK14 _ _ ?_
 refine W.region ?_
 refine zE 3 ?_
 refine loopAt_next ?_
 refine loopAt_round ?_
 refine W.seq fun K16 hK16 => ?_
 refine W.sr fun K17 hK17 => ?_
 refine zE 4 (hK17 _ _ ?_)
 refine W.cond_true true (by kernel_rfl) rfl ?_
 refine W.skip ?_
 refine hK16 _ _ ?_
 refine W.seq fun K18 hK18 => ?_
 refine W.block ?_
 refine W.region ?_
 refine zR 3 ?_
 have hk19 : 3 < 5 := by omega
 refine ops_R (runs_index (a := ma) (n := 5) (z := 3) (size := 1) 3 rfl hk19 (kU64.addr (hs.oldCells hm) hk19) (by kernel_rfl)) ?_
 refine zL ((adr ma (3 * 1)).add 0) (zu (([a_, b_, c_, d_, e_]).getD 3 0)) (kU64.at (hs.oldCells hm) hk19 0 0 rfl) ?_
 refine zE 2 ?_
 refine normal_block ?_
 refine hK18 _ _ ?_
 refine W.region ?_
 refine zE 3 ?_
 refine loopAt_next ?_
 refine loopAt_round ?_
 refine W.seq fun K20 hK20 => ?_
 refine W.sr fun K21 hK21 => ?_
 refine zE 4 (hK21 _ _ ?_)
 refine W.cond_true true (by kernel_rfl) rfl ?_
 refine W.skip ?_
 refine hK20 _ _ ?_
 refine W.seq fun K22 hK22 => ?_
 refine W.block ?_
 refine W.region ?_
 refine zR 3 ?_
 have hk23 : 4 < 5 := by omega
 refine ops_R (runs_index (a := ma) (n := 5) (z := 4) (size := 1) 4 rfl hk23 (kU64.addr (hs.oldCells hm) hk23) (by kernel_rfl)) ?_
 refine zL ((adr ma (4 * 1)).add 0) (zu (([a_, b_, c_, d_, e_]).getD 4 0)) (kU64.at (hs.oldCells hm) hk23 0 0 rfl) ?_
 refine zE 2 ?_
 refine normal_block ?_
 refine hK22 _ _ ?_
 refine W.region ?_
 refine zE 3 ?_
 refine loopAt_next ?_
 refine loopAt_round ?_
 refine W.seq fun K24 hK24 => ?_
 refine W.sr fun K25 hK25 => ?_
 refine zE 4 (hK25 _ _ ?_)
 refine W.cond_false false (by kernel_rfl) rfl ?_
 refine W.exit (exit_seq (exit_seq (exit_here ?_)))
 refine hK6 _ _ ?_
 refine W.sr fun K26 hK26 => ?_
 refine zE 2 (hK26 _ _ ?_)
 refine W.ret ?_
 refine ret_of (zu (mx (mx (mx (mx (([a_, b_, c_, d_, e_]).getD 0 0) (([a_, b_, c_, d_, e_]).getD 1 0)) (([a_, b_, c_, d_, e_]).getD 2 0)) (([a_, b_, c_, d_, e_]).getD 3 0)) (([a_, b_, c_, d_, e_]).getD 4 0))) (by kernel_rfl) ⟨_, ⟨rfl, rfl⟩, hs⟩
theorem right_spec {gw gi gb : Int} {x_ : Nd} (B : Nat) (w : World) : Spec Tryz.prog 45 #[(.agg #[(zi gw), (zi gi), (zi gb)]), (.agg #[(zu x_.k), (zu x_.l), (zu x_.o), (zu x_.s), (zu x_.a), (zu x_.b), (zu x_.c), (zu x_.d), (zu x_.e), (zu x_.m)])] B w [] (fun v H' => v = .bool (decide (RightP gw gi gb x_)) ∧ H' = []) := by
 refine spec_Q Tryz.func45 rfl fun hs => ?_
 refine W.sr fun K1 hK1 => ?_
 refine zN [(zi gw), (zi gi), (zi gb)] 24 hs fun b4 w2 hs3 => ?_
 refine zN [(zu x_.k), (zu x_.l), (zu x_.o), (zu x_.s), (zu x_.a), (zu x_.b), (zu x_.c), (zu x_.d), (zu x_.e), (zu x_.m)] 65 hs3 fun b7 w5 hs6 => ?_
 refine zE 1 (hK1 _ _ ?_)
 refine W.seq fun K8 hK8 => ?_
 refine W.sr fun K9 hK9 => ?_
 refine zG ⟨b4, 0, none⟩ [(zi gw), (zi gi), (zi gb)] (cells_sub (hs6.heapAt 1 rfl) rfl) ?_
 refine zC00 hs6 (may_spec (gw := gw) (gi := gi) (gb := gb) B _) fun w10 hs12 => ?_
 refine zR 2 ?_
 rcases Bool.eq_false_or_eq_true (!(decide (May gw gi gb))) with h13 | h13
 ·
  have h13p : ¬ (May gw gi gb) := of_decide_eq_false (bnot_true h13)
  refine zS 9 h13 ?_
  refine zS 8 h13 ?_
  refine zE 4 (hK9 _ _ ?_)
  refine W.cond_true true (by kernel_rfl) rfl ?_
  refine W.sr fun K14 hK14 => ?_
  refine zE 1 (hK14 _ _ ?_)
  refine W.ret (ret_seq ?_)
  have hs15 := St.tk0 hs12
  refine ret_of (.bool false) (by kernel_rfl) ⟨_, ⟨congrArg Value.bool (decide_eq_false (by first | (intro q; exact absurd q.1 (by assumption)) | ((try simp only [mx_lt, le_mx, ge_iff_le, Int.not_le] at *); simp only [RightP]; omega))).symm, rfl⟩, hs15⟩
 have h13p : May gw gi gb := of_decide_eq_true (bnot_false h13)
 have hm : May gw gi gb := h13p
 have hm_ : (1 ≤ gw ∧ gw ≤ 4) ∧ (2 ≤ gi ∧ gi ≤ 64) ∧ (2 ≤ gb ∧ gb ≤ 512) := hm
 refine zS 9 h13 ?_
 refine zS 8 h13 ?_
 refine zG ⟨b7, 0, none⟩ [(zu x_.k), (zu x_.l), (zu x_.o), (zu x_.s), (zu x_.a), (zu x_.b), (zu x_.c), (zu x_.d), (zu x_.e), (zu x_.m)] (cells_sub (hs12.heapAt 0 rfl) rfl) ?_
 refine zR 1 ?_
 refine ops_R (v := (.bool ((decide (x_.k = 0)) && ((decide (x_.l = 0)) && ((decide (x_.o = 0)) && ((decide (x_.s = 0)) && (((decide (x_.a = 0)) && ((decide (x_.b = 0)) && ((decide (x_.c = 0)) && ((decide (x_.d = 0)) && true)))) && ((decide (x_.e = 0)) && ((decide (x_.m = 0)) && true))))))))) (runs_eq (b := ((decide (x_.k = 0)) && ((decide (x_.l = 0)) && ((decide (x_.o = 0)) && ((decide (x_.s = 0)) && (((decide (x_.a = 0)) && ((decide (x_.b = 0)) && ((decide (x_.c = 0)) && ((decide (x_.d = 0)) && true)))) && ((decide (x_.e = 0)) && ((decide (x_.m = 0)) && true)))))))) (by kernel_rfl)) ?_
 refine zE 1 (hK9 _ _ ?_)
 refine W.cond ((decide (x_.k = 0)) && ((decide (x_.l = 0)) && ((decide (x_.o = 0)) && ((decide (x_.s = 0)) && (((decide (x_.a = 0)) && ((decide (x_.b = 0)) && ((decide (x_.c = 0)) && ((decide (x_.d = 0)) && true)))) && ((decide (x_.e = 0)) && ((decide (x_.m = 0)) && true))))))) (by kernel_rfl) (fun h16 => ?_) (fun h16 => ?_)
 ·
  have h16p : x_.k = 0 ∧ x_.l = 0 ∧ x_.o = 0 ∧ x_.s = 0 ∧ (x_.a = 0 ∧ x_.b = 0 ∧ x_.c = 0 ∧ x_.d = 0) ∧ x_.e = 0 ∧ x_.m = 0 := by simpa using h16
  refine W.sr fun K17 hK17 => ?_
  refine zE 1 (hK17 _ _ ?_)
  refine W.ret (ret_seq ?_)
  have hs18 := St.tk0 hs12
  refine ret_of (.bool false) (by kernel_rfl) ⟨_, ⟨congrArg Value.bool (decide_eq_false (by first | (intro q; exact absurd q.1 (by assumption)) | ((try simp only [mx_lt, le_mx, ge_iff_le, Int.not_le] at *); simp only [RightP]; omega))).symm, rfl⟩, hs18⟩
 have h16p : ¬ (x_.k = 0 ∧ x_.l = 0 ∧ x_.o = 0 ∧ x_.s = 0 ∧ (x_.a = 0 ∧ x_.b = 0 ∧ x_.c = 0 ∧ x_.d = 0) ∧ x_.e = 0 ∧ x_.m = 0) := by simpa using h16
 refine W.skip ?_
 refine hK8 _ _ ?_
 refine W.seq fun K19 hK19 => ?_
 have hs20 := hs12.drew
 refine W.regionD [(0, 0), (1, 1), (0, 0), (4, 4), (8, 8), (18, 18), (63, 32)] (fun w_ => St B w [] w_ [zb b7 65 [(zu x_.k), (zu x_.l), (zu x_.o), (zu x_.s), (zu x_.a), (zu x_.b), (zu x_.c), (zu x_.d), (zu x_.e), (zu x_.m)], zb b4 24 [(zi gw), (zi gi), (zi gb)]]) (by kernel_rfl) hs20 ?_
 refine zA (.pointer (some ⟨b7, 4, none⟩)) 0 hs20 ?_
 refine zA (.slice (some ⟨b7, 4, none⟩) 4 4) 1 hs20 ?_
 refine zA (.pointer (some ⟨b7, 8, none⟩)) 2 hs20 ?_
 refine zB 3 ⟨b7, 8, none⟩ (zu x_.e) (fun _ hS_ => (hS_.cellAt 0 rfl rfl)) hs20 ?_
 refine any_step 4 (by kernel_rfl) (by kernel_rfl) ?_
 refine ops_new (fun b => .slice (some ⟨b, 0, none⟩) 1 1) (.cells [(zu x_.e)].toArray 34 (0, 0)) hs20 (by kernel_rfl) (fun b23 w21 hs22 => ?_)
 have hs24 := St.f2 hs22
 have hs25 := St.f2 hs24
 have hs26 := St.tk2 hs25
 refine ops_done (by kernel_rfl) ⟨hs26, ?_⟩
 refine any_step 5 (by kernel_rfl) (by kernel_rfl) ?_
 refine ops_appendGrow (e := kU64.e) (size := 1) (bytes := 8) (n := 4) (c := 4) (m := 1) (c' := 1) (olds := [(zu x_.a), (zu x_.b), (zu x_.c), (zu x_.d)]) (news := [(zu x_.e)]) hs22 (by kernel_rfl) rfl (cells_sub (off := 4) (hs22.heapAt 1 rfl) rfl) rfl (cells_sub (off := 0) (hs22.heapAt 0 rfl) rfl) (by decide) (by decide) (by decide) (fun a27 c28 w29 hs30 => ?_)
 have hs31 : St B w [] w29 [kU64.row a27 c28 ([x_.a, x_.b, x_.c, x_.d, x_.e]), zb b23 34 [(zu x_.e)], zb b7 65 [(zu x_.k), (zu x_.l), (zu x_.o), (zu x_.s), (zu x_.a), (zu x_.b), (zu x_.c), (zu x_.d), (zu x_.e), (zu x_.m)], zb b4 24 [(zi gw), (zi gi), (zi gb)]] := hs30
 have hs32 := St.f3 hs31
 have hs33 := St.f3 hs32
 have hs34 := St.tk2 hs33
 refine ops_done (by kernel_rfl) ⟨hs34, ?_⟩
 refine zA (.slice a27 5 c28) 6 hs34 ?_
 refine any_done (by kernel_rfl) ?_
 refine hK19 _ _ ?_
 refine W.seq fun K35 hK35 => ?_
 refine W.seq fun K36 hK36 => ?_
 have hs37 := hs31.drew
 refine W.regionD [(0, 0), (1, 1), (0, 0), (4, 4), (8, 8), (18, 18), (34, 32), (64, 64), (192, 192), (64, 64), (576, 576), (1088, 1088), (2368, 2368), (4160, 4160)] (fun w_ => St B w [] w_ [kU64.row a27 c28 ([x_.a, x_.b, x_.c, x_.d, x_.e]), zb b23 34 [(zu x_.e)], zb b7 65 [(zu x_.k), (zu x_.l), (zu x_.o), (zu x_.s), (zu x_.a), (zu x_.b), (zu x_.c), (zu x_.d), (zu x_.e), (zu x_.m)], zb b4 24 [(zi gw), (zi gi), (zi gb)]]) (by kernel_rfl) hs37 ?_
 refine zA (.slice a27 5 c28) 0 hs37 ?_
 refine zA (.pointer (some ⟨b4, 2, none⟩)) 2 hs37 ?_
 refine zB 3 ⟨b4, 2, none⟩ (zi gb) (fun _ hS_ => (hS_.cellAt 3 rfl rfl)) hs37 ?_
 refine any_val (v := .int .u64 (IntKind.u64.wrap gb)) (v' := .int .u64 gb) 4 (by kernel_rfl) (fun _ => by kernel_rfl) (congrArg (Value.int .u64) (wrap_u64 (by omega) (by omega))) hs37 ?_
 refine any_step 1 (by kernel_rfl) (by kernel_rfl) ?_
 refine zC00 hs37 (max5_spec (mc := c28) (a_ := x_.a) (b_ := x_.b) (c_ := x_.c) (d_ := x_.d) (e_ := x_.e) (hm := (St.kcells kU64 hs37 0 rfl)) B _) fun w38 hs40 => ?_
 refine ops_done (by kernel_rfl) ⟨hs40, ?_⟩
 refine zA (.bool (decide ((mx (mx (mx (mx x_.a x_.b) x_.c) x_.d) x_.e) ≥ gb))) 5 hs40 ?_
 refine zA (.bool (decide ((mx (mx (mx (mx x_.a x_.b) x_.c) x_.d) x_.e) ≥ gb))) 6 hs40 ?_
 rcases Bool.eq_false_or_eq_true (decide ((mx (mx (mx (mx x_.a x_.b) x_.c) x_.d) x_.e) ≥ gb)) with h41 | h41
 ·
  have h41p := of_decide_eq_true h41
  refine any_set 25 (v := .bool true) (eq_bool_of (by kernel_rfl) h41) ?_
  refine any_set 26 (v := .bool true) (eq_bool_of (by kernel_rfl) h41) ?_
  refine any_skip 7 (by kernel_rfl) (by kernel_rfl) hs40 ?_
  refine any_skip 8 (by kernel_rfl) (by kernel_rfl) hs40 ?_
  refine any_skip 9 (by kernel_rfl) (by kernel_rfl) hs40 ?_
  refine any_skip 10 (by kernel_rfl) (by kernel_rfl) hs40 ?_
  refine any_skip 11 (by kernel_rfl) (by kernel_rfl) hs40 ?_
  refine any_skip 12 (by kernel_rfl) (by kernel_rfl) hs40 ?_
  refine zA (.bool true) 13 hs40 ?_
  refine any_done (by kernel_rfl) ?_
  refine hK36 _ _ ?_
  refine W.cond_true true (by kernel_rfl) rfl ?_
  refine W.sr fun K42 hK42 => ?_
  refine zE 1 (hK42 _ _ ?_)
  refine W.ret (ret_seq ?_)
  have hs43 := St.tk0 hs40
  refine ret_of (.bool false) (by kernel_rfl) ⟨_, ⟨congrArg Value.bool (decide_eq_false (by first | (intro q; exact absurd q.1 (by assumption)) | ((try simp only [mx_lt, le_mx, ge_iff_le, Int.not_le] at *); simp only [RightP]; omega))).symm, rfl⟩, hs43⟩
 have h41p := of_decide_eq_false h41
 refine any_set 25 (v := .bool false) (eq_bool_of (by kernel_rfl) h41) ?_
 refine any_set 26 (v := .bool false) (eq_bool_of (by kernel_rfl) h41) ?_
 refine zA (.pointer (some ⟨b7, 9, none⟩)) 7 hs40 ?_
 refine zB 8 ⟨b7, 9, none⟩ (zu x_.m) (fun _ hS_ => (hS_.cellAt 2 rfl rfl)) hs40 ?_
 refine zA (.pointer (some ⟨b4, 1, none⟩)) 9 hs40 ?_
 refine zB 10 ⟨b4, 1, none⟩ (zi gi) (fun _ hS_ => (hS_.cellAt 3 rfl rfl)) hs40 ?_
 refine any_val (v := .int .u64 (IntKind.u64.wrap gi)) (v' := .int .u64 gi) 11 (by kernel_rfl) (fun _ => by kernel_rfl) (congrArg (Value.int .u64) (wrap_u64 (by omega) (by omega))) hs40 ?_
 refine zA (.bool (decide (x_.m ≥ gi))) 12 hs40 ?_
 refine zA (.bool (decide (x_.m ≥ gi))) 13 hs40 ?_
 refine any_done (by kernel_rfl) ?_
 refine hK36 _ _ ?_
 refine W.cond (decide (x_.m ≥ gi)) (by kernel_rfl) (fun h44 => ?_) (fun h44 => ?_)
 ·
  have h44p := of_decide_eq_true h44
  refine W.sr fun K45 hK45 => ?_
  refine zE 1 (hK45 _ _ ?_)
  refine W.ret (ret_seq ?_)
  have hs46 := St.tk0 hs40
  refine ret_of (.bool false) (by kernel_rfl) ⟨_, ⟨congrArg Value.bool (decide_eq_false (by first | (intro q; exact absurd q.1 (by assumption)) | ((try simp only [mx_lt, le_mx, ge_iff_le, Int.not_le] at *); simp only [RightP]; omega))).symm, rfl⟩, hs46⟩
 have h44p := of_decide_eq_false h44
 refine W.skip ?_
 refine hK35 _ _ ?_
 refine W.seq fun K47 hK47 => ?_
 refine W.sr fun K48 hK48 => ?_
 refine zR 1 ?_
 refine zL ⟨b7, 1, none⟩ (zu x_.l) (hs40.cellAt 2 rfl rfl) ?_
 refine zR 2 ?_
 rcases Bool.eq_false_or_eq_true (decide (x_.l > 65536)) with h49 | h49
 ·
  have h49p := of_decide_eq_true h49
  refine zS 37 h49 ?_
  refine zS 36 h49 ?_
  refine zE 9 (hK48 _ _ ?_)
  refine W.cond_true true (by kernel_rfl) rfl ?_
  refine W.sr fun K50 hK50 => ?_
  refine zE 1 (hK50 _ _ ?_)
  refine W.ret (ret_seq ?_)
  have hs51 := St.tk0 hs40
  refine ret_of (.bool false) (by kernel_rfl) ⟨_, ⟨congrArg Value.bool (decide_eq_false (by first | (intro q; exact absurd q.1 (by assumption)) | ((try simp only [mx_lt, le_mx, ge_iff_le, Int.not_le] at *); simp only [RightP]; omega))).symm, rfl⟩, hs51⟩
 have h49p := of_decide_eq_false h49
 refine zS 37 h49 ?_
 refine zS 36 h49 ?_
 refine zR 1 ?_
 refine zL ⟨b7, 2, none⟩ (zu x_.o) (hs40.cellAt 2 rfl rfl) ?_
 refine zR 3 ?_
 rcases Bool.eq_false_or_eq_true (decide (x_.o > 16)) with h52 | h52
 ·
  have h52p := of_decide_eq_true h52
  refine zS 42 h52 ?_
  refine zS 40 h52 ?_
  refine zS 41 h52 ?_
  refine zE 4 (hK48 _ _ ?_)
  refine W.cond_true true (by kernel_rfl) rfl ?_
  refine W.sr fun K53 hK53 => ?_
  refine zE 1 (hK53 _ _ ?_)
  refine W.ret (ret_seq ?_)
  have hs54 := St.tk0 hs40
  refine ret_of (.bool false) (by kernel_rfl) ⟨_, ⟨congrArg Value.bool (decide_eq_false (by first | (intro q; exact absurd q.1 (by assumption)) | ((try simp only [mx_lt, le_mx, ge_iff_le, Int.not_le] at *); simp only [RightP]; omega))).symm, rfl⟩, hs54⟩
 have h52p := of_decide_eq_false h52
 refine zS 42 h52 ?_
 refine zS 40 h52 ?_
 refine zS 41 h52 ?_
 refine zR 1 ?_
 refine zL ⟨b7, 3, none⟩ (zu x_.s) (hs40.cellAt 2 rfl rfl) ?_
 refine zE 2 (hK48 _ _ ?_)
 refine W.cond (decide (x_.s > 768)) (by kernel_rfl) (fun h55 => ?_) (fun h55 => ?_)
 ·
  have h55p := of_decide_eq_true h55
  refine W.sr fun K56 hK56 => ?_
  refine zE 1 (hK56 _ _ ?_)
  refine W.ret (ret_seq ?_)
  have hs57 := St.tk0 hs40
  refine ret_of (.bool false) (by kernel_rfl) ⟨_, ⟨congrArg Value.bool (decide_eq_false (by first | (intro q; exact absurd q.1 (by assumption)) | ((try simp only [mx_lt, le_mx, ge_iff_le, Int.not_le] at *); simp only [RightP]; omega))).symm, rfl⟩, hs57⟩
 have h55p := of_decide_eq_false h55
 refine W.skip ?_
 refine hK47 _ _ ?_
 refine W.seq fun K58 hK58 => ?_
 refine W.sr fun K59 hK59 => ?_
 refine zR 1 ?_
 refine zL ⟨b7, 0, none⟩ (zu x_.k) (hs40.cellAt 2 rfl rfl) ?_
 refine zD (hK59 _ _ ?_)
 refine W.block ?_
 refine W.sr fun K60 hK60 => ?_
 refine zE 2 (hK60 _ _ ?_)
 refine W.cond (decide (x_.k = 1)) (by kernel_rfl) (fun h61 => ?_) (fun h61 => ?_)
 ·
  have h61p := of_decide_eq_true h61
  refine W.sr fun K62 hK62 => ?_
  refine zR 1 ?_
  refine zL ⟨b7, 9, none⟩ (zu x_.m) (hs40.cellAt 2 rfl rfl) ?_
  refine zE 2 (hK62 _ _ ?_)
  refine W.ret (ret_block (ret_seq ?_))
  have hs63 := St.tk0 hs40
  refine ret_of (.bool (decide (x_.m = 0))) (by kernel_rfl) ⟨_, ⟨congrArg Value.bool (decide_eq_decide.2 (by (try simp only [mx_lt, le_mx, ge_iff_le, Int.not_le] at *); simp only [RightP, hm, true_and]; omega)), rfl⟩, hs63⟩
 have h61p := of_decide_eq_false h61
 refine W.sr fun K64 hK64 => ?_
 refine zE 2 (hK64 _ _ ?_)
 refine W.cond (decide (x_.k = 2)) (by kernel_rfl) (fun h65 => ?_) (fun h65 => ?_)
 ·
  have h65p := of_decide_eq_true h65
  refine W.sr fun K66 hK66 => ?_
  refine zR 1 ?_
  refine zL ⟨b7, 3, none⟩ (zu x_.s) (hs40.cellAt 2 rfl rfl) ?_
  refine zE 2 (hK66 _ _ ?_)
  refine W.ret (ret_block (ret_seq ?_))
  have hs67 := St.tk0 hs40
  refine ret_of (.bool (decide (x_.s = 0))) (by kernel_rfl) ⟨_, ⟨congrArg Value.bool (decide_eq_decide.2 (by (try simp only [mx_lt, le_mx, ge_iff_le, Int.not_le] at *); simp only [RightP, hm, true_and]; omega)), rfl⟩, hs67⟩
 have h65p := of_decide_eq_false h65
 refine W.skip ?_
 refine normal_block ?_
 refine hK58 _ _ ?_
 refine W.sr fun K68 hK68 => ?_
 refine zE 1 (hK68 _ _ ?_)
 refine W.ret ?_
 have hs69 := St.tk0 hs40
 refine ret_of (.bool false) (by kernel_rfl) ⟨_, ⟨congrArg Value.bool (decide_eq_false (by first | (intro q; exact absurd q.1 (by assumption)) | ((try simp only [mx_lt, le_mx, ge_iff_le, Int.not_le] at *); simp only [RightP]; omega))).symm, rfl⟩, hs69⟩
end Go.Proofs.YtmmclabkkigiaaaGreat

set_option maxRecDepth 20000
set_option maxHeartbeats 2000000
namespace Go.Proofs.YtmmclabkkigiaaaGreat
open Go Go.RowKit
theorem rright_spec {gw gi gb : Int} {x_ : Nd} (B : Nat) (w : World) : Spec Tryz.prog 60 #[(.agg #[(zi gw), (zi gi), (zi gb)]), (.agg #[(zu x_.k), (zu x_.l), (zu x_.o), (zu x_.s), (zu x_.a), (zu x_.b), (zu x_.c), (zu x_.d), (zu x_.e), (zu x_.m)])] B w [] (fun v H' => v = .bool (decide (RightP gw gi gb x_)) ∧ H' = []) := by
 refine spec_Q Tryz.func60 rfl fun hs => ?_
 refine W.sr fun K1 hK1 => ?_
 refine zN [(zi gw), (zi gi), (zi gb)] 37 hs fun b4 w2 hs3 => ?_
 refine zN [(zu x_.k), (zu x_.l), (zu x_.o), (zu x_.s), (zu x_.a), (zu x_.b), (zu x_.c), (zu x_.d), (zu x_.e), (zu x_.m)] 77 hs3 fun b7 w5 hs6 => ?_
 refine zE 1 (hK1 _ _ ?_)
 refine W.seq fun K8 hK8 => ?_
 refine W.sr fun K9 hK9 => ?_
 refine zG ⟨b4, 0, none⟩ [(zi gw), (zi gi), (zi gb)] (cells_sub (hs6.heapAt 1 rfl) rfl) ?_
 refine zC00 hs6 (rmay_spec (gw := gw) (gi := gi) (gb := gb) B _) fun w10 hs12 => ?_
 refine zR 2 ?_
 rcases Bool.eq_false_or_eq_true (!(decide (May gw gi gb))) with h13 | h13
 ·
  have h13p : ¬ (May gw gi gb) := of_decide_eq_false (bnot_true h13)
  refine zS 9 h13 ?_
  refine zS 8 h13 ?_
  refine zE 9 (hK9 _ _ ?_)
  refine W.cond_true true (by kernel_rfl) rfl ?_
  refine W.sr fun K14 hK14 => ?_
  refine zE 1 (hK14 _ _ ?_)
  refine W.ret (ret_seq ?_)
  have hs15 := St.tk0 hs12
  refine ret_of (.bool false) (by kernel_rfl) ⟨_, ⟨congrArg Value.bool (decide_eq_false (by first | (intro q; exact absurd q.1 (by assumption)) | (simp only [RightP, hm, true_and]; omega))).symm, rfl⟩, hs15⟩
 have h13p : May gw gi gb := of_decide_eq_true (bnot_false h13)
 have hm : May gw gi gb := h13p
 have hm_ : (1 ≤ gw ∧ gw ≤ 4) ∧ (2 ≤ gi ∧ gi ≤ 64) ∧ (2 ≤ gb ∧ gb ≤ 512) := hm
 refine zS 9 h13 ?_
 refine zS 8 h13 ?_
 refine zR 1 ?_
 refine zL ⟨b7, 0, none⟩ (zu x_.k) (hs12.cellAt 0 rfl rfl) ?_
 refine zR 2 ?_
 rcases Bool.eq_false_or_eq_true (!decide (x_.k = 1)) with h16 | h16
 ·
  have h16p : ¬ (x_.k = 1) := of_decide_eq_false (bnot_true h16)
  refine zS 13 h16 ?_
  refine zS 12 h16 ?_
  refine zR 1 ?_
  refine zL ⟨b7, 0, none⟩ (zu x_.k) (hs12.cellAt 0 rfl rfl) ?_
  refine zE 3 (hK9 _ _ ?_)
  refine W.cond (!decide (x_.k = 2)) (by kernel_rfl) (fun h17 => ?_) (fun h17 => ?_)
  ·
   have h17p : ¬ (x_.k = 2) := of_decide_eq_false (bnot_true h17)
   refine W.sr fun K18 hK18 => ?_
   refine zE 1 (hK18 _ _ ?_)
   refine W.ret (ret_seq ?_)
   have hs19 := St.tk0 hs12
   refine ret_of (.bool false) (by kernel_rfl) ⟨_, ⟨congrArg Value.bool (decide_eq_false (by first | (intro q; exact absurd q.1 (by assumption)) | (simp only [RightP, hm, true_and]; omega))).symm, rfl⟩, hs19⟩
  have h17p : x_.k = 2 := of_decide_eq_true (bnot_false h17)
  refine W.skip ?_
  refine hK8 _ _ ?_
  refine W.seq fun K20 hK20 => ?_
  refine W.sr fun K21 hK21 => ?_
  refine zR 1 ?_
  refine zL ⟨b7, 1, none⟩ (zu x_.l) (hs12.cellAt 0 rfl rfl) ?_
  refine zR 2 ?_
  rcases Bool.eq_false_or_eq_true (decide (x_.l > 65536)) with h22 | h22
  ·
   have h22p := of_decide_eq_true h22
   refine zS 22 h22 ?_
   refine zS 21 h22 ?_
   refine zE 25 (hK21 _ _ ?_)
   refine W.cond_true true (by kernel_rfl) rfl ?_
   refine W.sr fun K23 hK23 => ?_
   refine zE 1 (hK23 _ _ ?_)
   refine W.ret (ret_seq ?_)
   have hs24 := St.tk0 hs12
   refine ret_of (.bool false) (by kernel_rfl) ⟨_, ⟨congrArg Value.bool (decide_eq_false (by first | (intro q; exact absurd q.1 (by assumption)) | (simp only [RightP, hm, true_and]; omega))).symm, rfl⟩, hs24⟩
  have h22p := of_decide_eq_false h22
  refine zS 22 h22 ?_
  refine zS 21 h22 ?_
  refine zR 1 ?_
  refine zL ⟨b7, 2, none⟩ (zu x_.o) (hs12.cellAt 0 rfl rfl) ?_
  refine zR 3 ?_
  rcases Bool.eq_false_or_eq_true (decide (x_.o > 16)) with h25 | h25
  ·
   have h25p := of_decide_eq_true h25
   refine zS 27 h25 ?_
   refine zS 25 h25 ?_
   refine zS 26 h25 ?_
   refine zE 20 (hK21 _ _ ?_)
   refine W.cond_true true (by kernel_rfl) rfl ?_
   refine W.sr fun K26 hK26 => ?_
   refine zE 1 (hK26 _ _ ?_)
   refine W.ret (ret_seq ?_)
   have hs27 := St.tk0 hs12
   refine ret_of (.bool false) (by kernel_rfl) ⟨_, ⟨congrArg Value.bool (decide_eq_false (by first | (intro q; exact absurd q.1 (by assumption)) | (simp only [RightP, hm, true_and]; omega))).symm, rfl⟩, hs27⟩
  have h25p := of_decide_eq_false h25
  refine zS 27 h25 ?_
  refine zS 25 h25 ?_
  refine zS 26 h25 ?_
  refine zR 1 ?_
  refine zL ⟨b7, 3, none⟩ (zu x_.s) (hs12.cellAt 0 rfl rfl) ?_
  refine zR 3 ?_
  rcases Bool.eq_false_or_eq_true (decide (x_.s > 768)) with h28 | h28
  ·
   have h28p := of_decide_eq_true h28
   refine zS 32 h28 ?_
   refine zS 30 h28 ?_
   refine zS 31 h28 ?_
   refine zE 15 (hK21 _ _ ?_)
   refine W.cond_true true (by kernel_rfl) rfl ?_
   refine W.sr fun K29 hK29 => ?_
   refine zE 1 (hK29 _ _ ?_)
   refine W.ret (ret_seq ?_)
   have hs30 := St.tk0 hs12
   refine ret_of (.bool false) (by kernel_rfl) ⟨_, ⟨congrArg Value.bool (decide_eq_false (by first | (intro q; exact absurd q.1 (by assumption)) | (simp only [RightP, hm, true_and]; omega))).symm, rfl⟩, hs30⟩
  have h28p := of_decide_eq_false h28
  refine zS 32 h28 ?_
  refine zS 30 h28 ?_
  refine zS 31 h28 ?_
  refine zR 1 ?_
  refine zL ⟨b7, 8, none⟩ (zu x_.e) (hs12.cellAt 0 rfl rfl) ?_
  refine zR 1 ?_
  refine zL ⟨b4, 2, none⟩ (zi gb) (hs12.cellAt 1 rfl rfl) ?_
  refine zI gb (wrap_u64 (by omega) (by omega)) ?_
  refine zR 3 ?_
  rcases Bool.eq_false_or_eq_true (decide (x_.e ≥ gb)) with h31 | h31
  ·
   have h31p := of_decide_eq_true h31
   refine zS 40 h31 ?_
   refine zS 38 h31 ?_
   refine zS 39 h31 ?_
   refine zE 7 (hK21 _ _ ?_)
   refine W.cond_true true (by kernel_rfl) rfl ?_
   refine W.sr fun K32 hK32 => ?_
   refine zE 1 (hK32 _ _ ?_)
   refine W.ret (ret_seq ?_)
   have hs33 := St.tk0 hs12
   refine ret_of (.bool false) (by kernel_rfl) ⟨_, ⟨congrArg Value.bool (decide_eq_false (by first | (intro q; exact absurd q.1 (by assumption)) | (simp only [RightP, hm, true_and]; omega))).symm, rfl⟩, hs33⟩
  have h31p := of_decide_eq_false h31
  refine zS 40 h31 ?_
  refine zS 38 h31 ?_
  refine zS 39 h31 ?_
  refine zR 1 ?_
  refine zL ⟨b7, 9, none⟩ (zu x_.m) (hs12.cellAt 0 rfl rfl) ?_
  refine zR 1 ?_
  refine zL ⟨b4, 1, none⟩ (zi gi) (hs12.cellAt 1 rfl rfl) ?_
  refine zI gi (wrap_u64 (by omega) (by omega)) ?_
  refine zE 2 (hK21 _ _ ?_)
  refine W.cond (decide (x_.m ≥ gi)) (by kernel_rfl) (fun h34 => ?_) (fun h34 => ?_)
  ·
   have h34p := of_decide_eq_true h34
   refine W.sr fun K35 hK35 => ?_
   refine zE 1 (hK35 _ _ ?_)
   refine W.ret (ret_seq ?_)
   have hs36 := St.tk0 hs12
   refine ret_of (.bool false) (by kernel_rfl) ⟨_, ⟨congrArg Value.bool (decide_eq_false (by first | (intro q; exact absurd q.1 (by assumption)) | (simp only [RightP, hm, true_and]; omega))).symm, rfl⟩, hs36⟩
  have h34p := of_decide_eq_false h34
  refine W.skip ?_
  refine hK20 _ _ ?_
  refine W.seq fun K37 hK37 => ?_
  refine W.sr fun K38 hK38 => ?_
  refine zE 1 (hK38 _ _ ?_)
  refine W.block ?_
  refine W.loop_start ?_
  refine loopAt_round ?_
  refine W.seq fun K39 hK39 => ?_
  refine W.sr fun K40 hK40 => ?_
  refine zE 2 (hK40 _ _ ?_)
  refine W.cond_true true (by kernel_rfl) rfl ?_
  refine W.skip ?_
  refine hK39 _ _ ?_
  refine W.seq fun K41 hK41 => ?_
  refine W.block ?_
  refine W.seq fun K42 hK42 => ?_
  have hs43 := hs12.drew
  refine W.regionD [(0, 0), (0, 0), (3, 3), (4, 4), (0, 0), (16, 16), (32, 32), (72, 72)] (fun w_ => St B w [] w_ [zb b7 77 [(zu x_.k), (zu x_.l), (zu x_.o), (zu x_.s), (zu x_.a), (zu x_.b), (zu x_.c), (zu x_.d), (zu x_.e), (zu x_.m)], zb b4 37 [(zi gw), (zi gi), (zi gb)]]) (by kernel_rfl) hs43 ?_
  refine zA (zi 0) 0 hs43 ?_
  refine zA (.pointer (some ⟨b7, 4, none⟩)) 1 hs43 ?_
  refine zA (.pointer (some ⟨b7, 4, none⟩)) 2 hs43 ?_
  refine zB 3 ⟨b7, 4, none⟩ (zu x_.a) (fun _ hS_ => (hS_.cellAt 0 rfl rfl)) hs43 ?_
  refine zA (.pointer (some ⟨b4, 2, none⟩)) 4 hs43 ?_
  refine zB 5 ⟨b4, 2, none⟩ (zi gb) (fun _ hS_ => (hS_.cellAt 1 rfl rfl)) hs43 ?_
  refine any_val (v := .int .u64 (IntKind.u64.wrap gb)) (v' := .int .u64 gb) 6 (by kernel_rfl) (fun _ => by kernel_rfl) (congrArg (Value.int .u64) (wrap_u64 (by omega) (by omega))) hs43 ?_
  refine zA (.bool (decide (x_.a ≥ gb))) 7 hs43 ?_
  refine any_done (by kernel_rfl) ?_
  refine hK42 _ _ ?_
  refine W.cond (decide (x_.a ≥ gb)) (by kernel_rfl) (fun h44 => ?_) (fun h44 => ?_)
  ·
   have h44p := of_decide_eq_true h44
   refine W.sr fun K45 hK45 => ?_
   refine zE 1 (hK45 _ _ ?_)
   refine W.ret (ret_block (ret_seq (ret_seq (ret_block (ret_seq ?_)))))
   have hs46 := St.tk0 hs43
   refine ret_of (.bool false) (by kernel_rfl) ⟨_, ⟨congrArg Value.bool (decide_eq_false (by first | (intro q; exact absurd q.1 (by assumption)) | (simp only [RightP, hm, true_and]; omega))).symm, rfl⟩, hs46⟩
  have h44p := of_decide_eq_false h44
  refine W.skip ?_
  refine normal_block ?_
  refine hK41 _ _ ?_
  refine W.region ?_
  refine zE 3 ?_
  refine loopAt_next ?_
  refine loopAt_round ?_
  refine W.seq fun K47 hK47 => ?_
  refine W.sr fun K48 hK48 => ?_
  refine zE 2 (hK48 _ _ ?_)
  refine W.cond_true true (by kernel_rfl) rfl ?_
  refine W.skip ?_
  refine hK47 _ _ ?_
  refine W.seq fun K49 hK49 => ?_
  refine W.block ?_
  refine W.seq fun K50 hK50 => ?_
  have hs51 := hs43.drew
  refine W.regionD [(0, 0), (0, 0), (3, 3), (4, 4), (0, 0), (16, 16), (32, 32), (72, 72)] (fun w_ => St B w [] w_ [zb b7 77 [(zu x_.k), (zu x_.l), (zu x_.o), (zu x_.s), (zu x_.a), (zu x_.b), (zu x_.c), (zu x_.d), (zu x_.e), (zu x_.m)], zb b4 37 [(zi gw), (zi gi), (zi gb)]]) (by kernel_rfl) hs51 ?_
  refine zA (zi 1) 0 hs51 ?_
  refine zA (.pointer (some ⟨b7, 4, none⟩)) 1 hs51 ?_
  refine zA (.pointer (some ⟨b7, 5, none⟩)) 2 hs51 ?_
  refine zB 3 ⟨b7, 5, none⟩ (zu x_.b) (fun _ hS_ => (hS_.cellAt 0 rfl rfl)) hs51 ?_
  refine zA (.pointer (some ⟨b4, 2, none⟩)) 4 hs51 ?_
  refine zB 5 ⟨b4, 2, none⟩ (zi gb) (fun _ hS_ => (hS_.cellAt 1 rfl rfl)) hs51 ?_
  refine any_val (v := .int .u64 (IntKind.u64.wrap gb)) (v' := .int .u64 gb) 6 (by kernel_rfl) (fun _ => by kernel_rfl) (congrArg (Value.int .u64) (wrap_u64 (by omega) (by omega))) hs51 ?_
  refine zA (.bool (decide (x_.b ≥ gb))) 7 hs51 ?_
  refine any_done (by kernel_rfl) ?_
  refine hK50 _ _ ?_
  refine W.cond (decide (x_.b ≥ gb)) (by kernel_rfl) (fun h52 => ?_) (fun h52 => ?_)
  ·
   have h52p := of_decide_eq_true h52
   refine W.sr fun K53 hK53 => ?_
   refine zE 1 (hK53 _ _ ?_)
   refine W.ret (ret_block (ret_seq (ret_seq (ret_block (ret_seq ?_)))))
   have hs54 := St.tk0 hs51
   refine ret_of (.bool false) (by kernel_rfl) ⟨_, ⟨congrArg Value.bool (decide_eq_false (by first | (intro q; exact absurd q.1 (by assumption)) | (simp only [RightP, hm, true_and]; omega))).symm, rfl⟩, hs54⟩
  have h52p := of_decide_eq_false h52
  refine W.skip ?_
  refine normal_block ?_
  refine hK49 _ _ ?_
  refine W.region ?_
  refine zE 3 ?_
  refine loopAt_next ?_
  refine loopAt_round ?_
  refine W.seq fun K55 hK55 => ?_
  refine W.sr fun K56 hK56 => ?_
  refine zE 2 (hK56 _ _ ?_)
  refine W.cond_true true (by kernel_rfl) rfl ?_
  refine W.skip ?_
  refine hK55 _ _ ?_
  refine W.seq fun K57 hK57 => ?_
  refine W.block ?_
  refine W.seq fun K58 hK58 => ?_
  have hs59 := hs51.drew
  refine W.regionD [(0, 0), (0, 0), (3, 3), (4, 4), (0, 0), (16, 16), (32, 32), (72, 72)] (fun w_ => St B w [] w_ [zb b7 77 [(zu x_.k), (zu x_.l), (zu x_.o), (zu x_.s), (zu x_.a), (zu x_.b), (zu x_.c), (zu x_.d), (zu x_.e), (zu x_.m)], zb b4 37 [(zi gw), (zi gi), (zi gb)]]) (by kernel_rfl) hs59 ?_
  refine zA (zi 2) 0 hs59 ?_
  refine zA (.pointer (some ⟨b7, 4, none⟩)) 1 hs59 ?_
  refine zA (.pointer (some ⟨b7, 6, none⟩)) 2 hs59 ?_
  refine zB 3 ⟨b7, 6, none⟩ (zu x_.c) (fun _ hS_ => (hS_.cellAt 0 rfl rfl)) hs59 ?_
  refine zA (.pointer (some ⟨b4, 2, none⟩)) 4 hs59 ?_
  refine zB 5 ⟨b4, 2, none⟩ (zi gb) (fun _ hS_ => (hS_.cellAt 1 rfl rfl)) hs59 ?_
  refine any_val (v := .int .u64 (IntKind.u64.wrap gb)) (v' := .int .u64 gb) 6 (by kernel_rfl) (fun _ => by kernel_rfl) (congrArg (Value.int .u64) (wrap_u64 (by omega) (by omega))) hs59 ?_
  refine zA (.bool (decide (x_.c ≥ gb))) 7 hs59 ?_
  refine any_done (by kernel_rfl) ?_
  refine hK58 _ _ ?_
  refine W.cond (decide (x_.c ≥ gb)) (by kernel_rfl) (fun h60 => ?_) (fun h60 => ?_)
  ·
   have h60p := of_decide_eq_true h60
   refine W.sr fun K61 hK61 => ?_
   refine zE 1 (hK61 _ _ ?_)
   refine W.ret (ret_block (ret_seq (ret_seq (ret_block (ret_seq ?_)))))
   have hs62 := St.tk0 hs59
   refine ret_of (.bool false) (by kernel_rfl) ⟨_, ⟨congrArg Value.bool (decide_eq_false (by first | (intro q; exact absurd q.1 (by assumption)) | (simp only [RightP, hm, true_and]; omega))).symm, rfl⟩, hs62⟩
  have h60p := of_decide_eq_false h60
  refine W.skip ?_
  refine normal_block ?_
  refine hK57 _ _ ?_
  refine W.region ?_
  refine zE 3 ?_
  refine loopAt_next ?_
  refine loopAt_round ?_
  refine W.seq fun K63 hK63 => ?_
  refine W.sr fun K64 hK64 => ?_
  refine zE 2 (hK64 _ _ ?_)
  refine W.cond_true true (by kernel_rfl) rfl ?_
  refine W.skip ?_
  refine hK63 _ _ ?_
  refine W.seq fun K65 hK65 => ?_
  refine W.block ?_
  refine W.seq fun K66 hK66 => ?_
  have hs67 := hs59.drew
  refine W.regionD [(0, 0), (0, 0), (3, 3), (4, 4), (0, 0), (16, 16), (32, 32), (72, 72)] (fun w_ => St B w [] w_ [zb b7 77 [(zu x_.k), (zu x_.l), (zu x_.o), (zu x_.s), (zu x_.a), (zu x_.b), (zu x_.c), (zu x_.d), (zu x_.e), (zu x_.m)], zb b4 37 [(zi gw), (zi gi), (zi gb)]]) (by kernel_rfl) hs67 ?_
  refine zA (zi 3) 0 hs67 ?_
  refine zA (.pointer (some ⟨b7, 4, none⟩)) 1 hs67 ?_
  refine zA (.pointer (some ⟨b7, 7, none⟩)) 2 hs67 ?_
  refine zB 3 ⟨b7, 7, none⟩ (zu x_.d) (fun _ hS_ => (hS_.cellAt 0 rfl rfl)) hs67 ?_
  refine zA (.pointer (some ⟨b4, 2, none⟩)) 4 hs67 ?_
  refine zB 5 ⟨b4, 2, none⟩ (zi gb) (fun _ hS_ => (hS_.cellAt 1 rfl rfl)) hs67 ?_
  refine any_val (v := .int .u64 (IntKind.u64.wrap gb)) (v' := .int .u64 gb) 6 (by kernel_rfl) (fun _ => by kernel_rfl) (congrArg (Value.int .u64) (wrap_u64 (by omega) (by omega))) hs67 ?_
  refine zA (.bool (decide (x_.d ≥ gb))) 7 hs67 ?_
  refine any_done (by kernel_rfl) ?_
  refine hK66 _ _ ?_
  refine W.cond (decide (x_.d ≥ gb)) (by kernel_rfl) (fun h68 => ?_) (fun h68 => ?_)
  ·
   have h68p := of_decide_eq_true h68
   refine W.sr fun K69 hK69 => ?_
   refine zE 1 (hK69 _ _ ?_)
   refine W.ret (ret_block (ret_seq (ret_seq (ret_block (ret_seq ?_)))))
   have hs70 := St.tk0 hs67
   refine ret_of (.bool false) (by kernel_rfl) ⟨_, ⟨congrArg Value.bool (decide_eq_false (by first | (intro q; exact absurd q.1 (by assumption)) | (simp only [RightP, hm, true_and]; omega))).symm, rfl⟩, hs70⟩
  have h68p := of_decide_eq_false h68
  refine W.skip ?_
  refine normal_block ?_
  refine hK65 _ _ ?_
  refine W.region ?_
  refine zE 3 ?_
  refine loopAt_next ?_
  refine loopAt_round ?_
  refine W.seq fun K71 hK71 => ?_
  refine W.sr fun K72 hK72 => ?_
  refine zE 2 (hK72 _ _ ?_)
  refine W.cond_false false (by kernel_rfl) rfl ?_
  refine W.exit (exit_seq (exit_seq (exit_here ?_)))
  refine hK37 _ _ ?_
  refine W.sr fun K73 hK73 => ?_
  refine zR 1 ?_
  refine zL ⟨b7, 0, none⟩ (zu x_.k) (hs67.cellAt 0 rfl rfl) ?_
  refine zR 2 ?_
  rcases Bool.eq_false_or_eq_true (decide (x_.k = 1)) with h74 | h74
  ·
   have h74p := of_decide_eq_true h74
   refine zS 63 h74 ?_
   refine zS 62 h74 ?_
   refine zR 1 ?_
   refine zL ⟨b7, 9, none⟩ (zu x_.m) (hs67.cellAt 0 rfl rfl) ?_
   refine zR 3 ?_
   rcases Bool.eq_false_or_eq_true (decide (x_.m = 0)) with h75 | h75
   ·
    have h75p := of_decide_eq_true h75
    refine zS 68 h75 ?_
    refine zS 66 h75 ?_
    refine zS 67 h75 ?_
    refine zE 10 (hK73 _ _ ?_)
    refine W.ret ?_
    have hs76 := St.tk0 hs67
    refine ret_of (.bool true) (by kernel_rfl) ⟨_, ⟨congrArg Value.bool (decide_eq_true (by first | (intro q; exact absurd q.1 (by assumption)) | (simp only [RightP, hm, true_and]; omega))).symm, rfl⟩, hs76⟩
   have h75p := of_decide_eq_false h75
   refine zS 68 h75 ?_
   refine zS 66 h75 ?_
   refine zS 67 h75 ?_
   refine zR 1 ?_
   refine zL ⟨b7, 0, none⟩ (zu x_.k) (hs67.cellAt 0 rfl rfl) ?_
   refine zR 2 ?_
   rcases Bool.eq_false_or_eq_true (decide (x_.k = 2)) with h77 | h77
   ·
    have h77p := of_decide_eq_true h77
    refine zS 72 h77 ?_
    refine zS 71 h77 ?_
    refine zR 1 ?_
    refine zL ⟨b7, 3, none⟩ (zu x_.s) (hs67.cellAt 0 rfl rfl) ?_
    refine zE 4 (hK73 _ _ ?_)
    refine W.ret ?_
    have hs78 := St.tk0 hs67
    refine ret_of (.bool (decide (x_.s = 0))) (by kernel_rfl) ⟨_, ⟨congrArg Value.bool (decide_eq_decide.2 (by simp only [RightP, hm, true_and]; omega)), rfl⟩, hs78⟩
   have h77p := of_decide_eq_false h77
   refine zS 72 h77 ?_
   refine zS 71 h77 ?_
   refine zE 6 (hK73 _ _ ?_)
   refine W.ret ?_
   have hs79 := St.tk0 hs67
   refine ret_of (.bool false) (by kernel_rfl) ⟨_, ⟨congrArg Value.bool (decide_eq_false (by first | (intro q; exact absurd q.1 (by assumption)) | (simp only [RightP, hm, true_and]; omega))).symm, rfl⟩, hs79⟩
  have h74p := of_decide_eq_false h74
  refine zS 63 h74 ?_
  refine zS 62 h74 ?_
  refine zR 6 ?_
  refine zL ⟨b7, 0, none⟩ (zu x_.k) (hs67.cellAt 0 rfl rfl) ?_
  refine zR 2 ?_
  rcases Bool.eq_false_or_eq_true (decide (x_.k = 2)) with h80 | h80
  ·
   have h80p := of_decide_eq_true h80
   refine zS 72 h80 ?_
   refine zS 71 h80 ?_
   refine zR 1 ?_
   refine zL ⟨b7, 3, none⟩ (zu x_.s) (hs67.cellAt 0 rfl rfl) ?_
   refine zE 4 (hK73 _ _ ?_)
   refine W.ret ?_
   have hs81 := St.tk0 hs67
   refine ret_of (.bool (decide (x_.s = 0))) (by kernel_rfl) ⟨_, ⟨congrArg Value.bool (decide_eq_decide.2 (by simp only [RightP, hm, true_and]; omega)), rfl⟩, hs81⟩
  have h80p := of_decide_eq_false h80
  refine zS 72 h80 ?_
  refine zS 71 h80 ?_
  refine zE 6 (hK73 _ _ ?_)
  refine W.ret ?_
  have hs82 := St.tk0 hs67
  refine ret_of (.bool false) (by kernel_rfl) ⟨_, ⟨congrArg Value.bool (decide_eq_false (by first | (intro q; exact absurd q.1 (by assumption)) | (simp only [RightP, hm, true_and]; omega))).symm, rfl⟩, hs82⟩
 have h16p : x_.k = 1 := of_decide_eq_true (bnot_false h16)
 refine zS 13 h16 ?_
 refine zS 12 h16 ?_
 refine zE 5 (hK9 _ _ ?_)
 refine W.cond_false false (by kernel_rfl) rfl ?_
 refine W.skip ?_
 refine hK8 _ _ ?_
 refine W.seq fun K83 hK83 => ?_
 refine W.sr fun K84 hK84 => ?_
 refine zR 1 ?_
 refine zL ⟨b7, 1, none⟩ (zu x_.l) (hs12.cellAt 0 rfl rfl) ?_
 refine zR 2 ?_
 rcases Bool.eq_false_or_eq_true (decide (x_.l > 65536)) with h85 | h85
 ·
  have h85p := of_decide_eq_true h85
  refine zS 22 h85 ?_
  refine zS 21 h85 ?_
  refine zE 25 (hK84 _ _ ?_)
  refine W.cond_true true (by kernel_rfl) rfl ?_
  refine W.sr fun K86 hK86 => ?_
  refine zE 1 (hK86 _ _ ?_)
  refine W.ret (ret_seq ?_)
  have hs87 := St.tk0 hs12
  refine ret_of (.bool false) (by kernel_rfl) ⟨_, ⟨congrArg Value.bool (decide_eq_false (by first | (intro q; exact absurd q.1 (by assumption)) | (simp only [RightP, hm, true_and]; omega))).symm, rfl⟩, hs87⟩
 have h85p := of_decide_eq_false h85
 refine zS 22 h85 ?_
 refine zS 21 h85 ?_
 refine zR 1 ?_
 refine zL ⟨b7, 2, none⟩ (zu x_.o) (hs12.cellAt 0 rfl rfl) ?_
 refine zR 3 ?_
 rcases Bool.eq_false_or_eq_true (decide (x_.o > 16)) with h88 | h88
 ·
  have h88p := of_decide_eq_true h88
  refine zS 27 h88 ?_
  refine zS 25 h88 ?_
  refine zS 26 h88 ?_
  refine zE 20 (hK84 _ _ ?_)
  refine W.cond_true true (by kernel_rfl) rfl ?_
  refine W.sr fun K89 hK89 => ?_
  refine zE 1 (hK89 _ _ ?_)
  refine W.ret (ret_seq ?_)
  have hs90 := St.tk0 hs12
  refine ret_of (.bool false) (by kernel_rfl) ⟨_, ⟨congrArg Value.bool (decide_eq_false (by first | (intro q; exact absurd q.1 (by assumption)) | (simp only [RightP, hm, true_and]; omega))).symm, rfl⟩, hs90⟩
 have h88p := of_decide_eq_false h88
 refine zS 27 h88 ?_
 refine zS 25 h88 ?_
 refine zS 26 h88 ?_
 refine zR 1 ?_
 refine zL ⟨b7, 3, none⟩ (zu x_.s) (hs12.cellAt 0 rfl rfl) ?_
 refine zR 3 ?_
 rcases Bool.eq_false_or_eq_true (decide (x_.s > 768)) with h91 | h91
 ·
  have h91p := of_decide_eq_true h91
  refine zS 32 h91 ?_
  refine zS 30 h91 ?_
  refine zS 31 h91 ?_
  refine zE 15 (hK84 _ _ ?_)
  refine W.cond_true true (by kernel_rfl) rfl ?_
  refine W.sr fun K92 hK92 => ?_
  refine zE 1 (hK92 _ _ ?_)
  refine W.ret (ret_seq ?_)
  have hs93 := St.tk0 hs12
  refine ret_of (.bool false) (by kernel_rfl) ⟨_, ⟨congrArg Value.bool (decide_eq_false (by first | (intro q; exact absurd q.1 (by assumption)) | (simp only [RightP, hm, true_and]; omega))).symm, rfl⟩, hs93⟩
 have h91p := of_decide_eq_false h91
 refine zS 32 h91 ?_
 refine zS 30 h91 ?_
 refine zS 31 h91 ?_
 refine zR 1 ?_
 refine zL ⟨b7, 8, none⟩ (zu x_.e) (hs12.cellAt 0 rfl rfl) ?_
 refine zR 1 ?_
 refine zL ⟨b4, 2, none⟩ (zi gb) (hs12.cellAt 1 rfl rfl) ?_
 refine zI gb (wrap_u64 (by omega) (by omega)) ?_
 refine zR 3 ?_
 rcases Bool.eq_false_or_eq_true (decide (x_.e ≥ gb)) with h94 | h94
 ·
  have h94p := of_decide_eq_true h94
  refine zS 40 h94 ?_
  refine zS 38 h94 ?_
  refine zS 39 h94 ?_
  refine zE 7 (hK84 _ _ ?_)
  refine W.cond_true true (by kernel_rfl) rfl ?_
  refine W.sr fun K95 hK95 => ?_
  refine zE 1 (hK95 _ _ ?_)
  refine W.ret (ret_seq ?_)
  have hs96 := St.tk0 hs12
  refine ret_of (.bool false) (by kernel_rfl) ⟨_, ⟨congrArg Value.bool (decide_eq_false (by first | (intro q; exact absurd q.1 (by assumption)) | (simp only [RightP, hm, true_and]; omega))).symm, rfl⟩, hs96⟩
 have h94p := of_decide_eq_false h94
 refine zS 40 h94 ?_
 refine zS 38 h94 ?_
 refine zS 39 h94 ?_
 refine zR 1 ?_
 refine zL ⟨b7, 9, none⟩ (zu x_.m) (hs12.cellAt 0 rfl rfl) ?_
 refine zR 1 ?_
 refine zL ⟨b4, 1, none⟩ (zi gi) (hs12.cellAt 1 rfl rfl) ?_
 refine zI gi (wrap_u64 (by omega) (by omega)) ?_
 refine zE 2 (hK84 _ _ ?_)
 refine W.cond (decide (x_.m ≥ gi)) (by kernel_rfl) (fun h97 => ?_) (fun h97 => ?_)
 ·
  have h97p := of_decide_eq_true h97
  refine W.sr fun K98 hK98 => ?_
  refine zE 1 (hK98 _ _ ?_)
  refine W.ret (ret_seq ?_)
  have hs99 := St.tk0 hs12
  refine ret_of (.bool false) (by kernel_rfl) ⟨_, ⟨congrArg Value.bool (decide_eq_false (by first | (intro q; exact absurd q.1 (by assumption)) | (simp only [RightP, hm, true_and]; omega))).symm, rfl⟩, hs99⟩
 have h97p := of_decide_eq_false h97
 refine W.skip ?_
 refine hK83 _ _ ?_
 refine W.seq fun K100 hK100 => ?_
 refine W.sr fun K101 hK101 => ?_
 refine zE 1 (hK101 _ _ ?_)
 refine W.block ?_
 refine W.loop_start ?_
 refine loopAt_round ?_
 refine W.seq fun K102 hK102 => ?_
 refine W.sr fun K103 hK103 => ?_
 refine zE 2 (hK103 _ _ ?_)
 refine W.cond_true true (by kernel_rfl) rfl ?_
 refine W.skip ?_
 refine hK102 _ _ ?_
 refine W.seq fun K104 hK104 => ?_
 refine W.block ?_
 refine W.seq fun K105 hK105 => ?_
 have hs106 := hs12.drew
 refine W.regionD [(0, 0), (0, 0), (3, 3), (4, 4), (0, 0), (16, 16), (32, 32), (72, 72)] (fun w_ => St B w [] w_ [zb b7 77 [(zu x_.k), (zu x_.l), (zu x_.o), (zu x_.s), (zu x_.a), (zu x_.b), (zu x_.c), (zu x_.d), (zu x_.e), (zu x_.m)], zb b4 37 [(zi gw), (zi gi), (zi gb)]]) (by kernel_rfl) hs106 ?_
 refine zA (zi 0) 0 hs106 ?_
 refine zA (.pointer (some ⟨b7, 4, none⟩)) 1 hs106 ?_
 refine zA (.pointer (some ⟨b7, 4, none⟩)) 2 hs106 ?_
 refine zB 3 ⟨b7, 4, none⟩ (zu x_.a) (fun _ hS_ => (hS_.cellAt 0 rfl rfl)) hs106 ?_
 refine zA (.pointer (some ⟨b4, 2, none⟩)) 4 hs106 ?_
 refine zB 5 ⟨b4, 2, none⟩ (zi gb) (fun _ hS_ => (hS_.cellAt 1 rfl rfl)) hs106 ?_
 refine any_val (v := .int .u64 (IntKind.u64.wrap gb)) (v' := .int .u64 gb) 6 (by kernel_rfl) (fun _ => by kernel_rfl) (congrArg (Value.int .u64) (wrap_u64 (by omega) (by omega))) hs106 ?_
 refine zA (.bool (decide (x_.a ≥ gb))) 7 hs106 ?_
 refine any_done (by kernel_rfl) ?_
 refine hK105 _ _ ?_
 refine W.cond (decide (x_.a ≥ gb)) (by kernel_rfl) (fun h107 => ?_) (fun h107 => ?_)
 ·
  have h107p := of_decide_eq_true h107
  refine W.sr fun K108 hK108 => ?_
  refine zE 1 (hK108 _ _ ?_)
  refine W.ret (ret_block (ret_seq (ret_seq (ret_block (ret_seq ?_)))))
  have hs109 := St.tk0 hs106
  refine ret_of (.bool false) (by kernel_rfl) ⟨_, ⟨congrArg Value.bool (decide_eq_false (by first | (intro q; exact absurd q.1 (by assumption)) | (simp only [RightP, hm, true_and]; omega))).symm, rfl⟩, hs109⟩
 have h107p := of_decide_eq_false h107
 refine W.skip ?_
 refine normal_block ?_
 refine hK104 _ _ ?_
 refine W.region ?_
 refine zE 3 ?_
 refine loopAt_next ?_
 refine loopAt_round ?_
 refine W.seq fun K110 hK110 => ?_
 refine W.sr fun K111 hK111 => ?_
 refine zE 2 (hK111 _ _ ?_)
 refine W.cond_true true (by kernel_rfl) rfl ?_
 refine W.skip ?_
 refine hK110 _ _ ?_
 refine W.seq fun K112 hK112 => ?_
 refine W.block ?_
 refine W.seq fun K113 hK113 => ?_
 have hs114 := hs106.drew
 refine W.regionD [(0, 0), (0, 0), (3, 3), (4, 4), (0, 0), (16, 16), (32, 32), (72, 72)] (fun w_ => St B w [] w_ [zb b7 77 [(zu x_.k), (zu x_.l), (zu x_.o), (zu x_.s), (zu x_.a), (zu x_.b), (zu x_.c), (zu x_.d), (zu x_.e), (zu x_.m)], zb b4 37 [(zi gw), (zi gi), (zi gb)]]) (by kernel_rfl) hs114 ?_
 refine zA (zi 1) 0 hs114 ?_
 refine zA (.pointer (some ⟨b7, 4, none⟩)) 1 hs114 ?_
 refine zA (.pointer (some ⟨b7, 5, none⟩)) 2 hs114 ?_
 refine zB 3 ⟨b7, 5, none⟩ (zu x_.b) (fun _ hS_ => (hS_.cellAt 0 rfl rfl)) hs114 ?_
 refine zA (.pointer (some ⟨b4, 2, none⟩)) 4 hs114 ?_
 refine zB 5 ⟨b4, 2, none⟩ (zi gb) (fun _ hS_ => (hS_.cellAt 1 rfl rfl)) hs114 ?_
 refine any_val (v := .int .u64 (IntKind.u64.wrap gb)) (v' := .int .u64 gb) 6 (by kernel_rfl) (fun _ => by kernel_rfl) (congrArg (Value.int .u64) (wrap_u64 (by omega) (by omega))) hs114 ?_
 refine zA (.bool (decide (x_.b ≥ gb))) 7 hs114 ?_
 refine any_done (by kernel_rfl) ?_
 refine hK113 _ _ ?_
 refine W.cond (decide (x_.b ≥ gb)) (by kernel_rfl) (fun h115 => ?_) (fun h115 => ?_)
 ·
  have h115p := of_decide_eq_true h115
  refine W.sr fun K116 hK116 => ?_
  refine zE 1 (hK116 _ _ ?_)
  refine W.ret (ret_block (ret_seq (ret_seq (ret_block (ret_seq ?_)))))
  have hs117 := St.tk0 hs114
  refine ret_of (.bool false) (by kernel_rfl) ⟨_, ⟨congrArg Value.bool (decide_eq_false (by first | (intro q; exact absurd q.1 (by assumption)) | (simp only [RightP, hm, true_and]; omega))).symm, rfl⟩, hs117⟩
 have h115p := of_decide_eq_false h115
 refine W.skip ?_
 refine normal_block ?_
 refine hK112 _ _ ?_
 refine W.region ?_
 refine zE 3 ?_
 refine loopAt_next ?_
 refine loopAt_round ?_
 refine W.seq fun K118 hK118 => ?_
 refine W.sr fun K119 hK119 => ?_
 refine zE 2 (hK119 _ _ ?_)
 refine W.cond_true true (by kernel_rfl) rfl ?_
 refine W.skip ?_
 refine hK118 _ _ ?_
 refine W.seq fun K120 hK120 => ?_
 refine W.block ?_
 refine W.seq fun K121 hK121 => ?_
 have hs122 := hs114.drew
 refine W.regionD [(0, 0), (0, 0), (3, 3), (4, 4), (0, 0), (16, 16), (32, 32), (72, 72)] (fun w_ => St B w [] w_ [zb b7 77 [(zu x_.k), (zu x_.l), (zu x_.o), (zu x_.s), (zu x_.a), (zu x_.b), (zu x_.c), (zu x_.d), (zu x_.e), (zu x_.m)], zb b4 37 [(zi gw), (zi gi), (zi gb)]]) (by kernel_rfl) hs122 ?_
 refine zA (zi 2) 0 hs122 ?_
 refine zA (.pointer (some ⟨b7, 4, none⟩)) 1 hs122 ?_
 refine zA (.pointer (some ⟨b7, 6, none⟩)) 2 hs122 ?_
 refine zB 3 ⟨b7, 6, none⟩ (zu x_.c) (fun _ hS_ => (hS_.cellAt 0 rfl rfl)) hs122 ?_
 refine zA (.pointer (some ⟨b4, 2, none⟩)) 4 hs122 ?_
 refine zB 5 ⟨b4, 2, none⟩ (zi gb) (fun _ hS_ => (hS_.cellAt 1 rfl rfl)) hs122 ?_
 refine any_val (v := .int .u64 (IntKind.u64.wrap gb)) (v' := .int .u64 gb) 6 (by kernel_rfl) (fun _ => by kernel_rfl) (congrArg (Value.int .u64) (wrap_u64 (by omega) (by omega))) hs122 ?_
 refine zA (.bool (decide (x_.c ≥ gb))) 7 hs122 ?_
 refine any_done (by kernel_rfl) ?_
 refine hK121 _ _ ?_
 refine W.cond (decide (x_.c ≥ gb)) (by kernel_rfl) (fun h123 => ?_) (fun h123 => ?_)
 ·
  have h123p := of_decide_eq_true h123
  refine W.sr fun K124 hK124 => ?_
  refine zE 1 (hK124 _ _ ?_)
  refine W.ret (ret_block (ret_seq (ret_seq (ret_block (ret_seq ?_)))))
  have hs125 := St.tk0 hs122
  refine ret_of (.bool false) (by kernel_rfl) ⟨_, ⟨congrArg Value.bool (decide_eq_false (by first | (intro q; exact absurd q.1 (by assumption)) | (simp only [RightP, hm, true_and]; omega))).symm, rfl⟩, hs125⟩
 have h123p := of_decide_eq_false h123
 refine W.skip ?_
 refine normal_block ?_
 refine hK120 _ _ ?_
 refine W.region ?_
 refine zE 3 ?_
 refine loopAt_next ?_
 refine loopAt_round ?_
 refine W.seq fun K126 hK126 => ?_
 refine W.sr fun K127 hK127 => ?_
 refine zE 2 (hK127 _ _ ?_)
 refine W.cond_true true (by kernel_rfl) rfl ?_
 refine W.skip ?_
 refine hK126 _ _ ?_
 refine W.seq fun K128 hK128 => ?_
 refine W.block ?_
 refine W.seq fun K129 hK129 => ?_
 have hs130 := hs122.drew
 refine W.regionD [(0, 0), (0, 0), (3, 3), (4, 4), (0, 0), (16, 16), (32, 32), (72, 72)] (fun w_ => St B w [] w_ [zb b7 77 [(zu x_.k), (zu x_.l), (zu x_.o), (zu x_.s), (zu x_.a), (zu x_.b), (zu x_.c), (zu x_.d), (zu x_.e), (zu x_.m)], zb b4 37 [(zi gw), (zi gi), (zi gb)]]) (by kernel_rfl) hs130 ?_
 refine zA (zi 3) 0 hs130 ?_
 refine zA (.pointer (some ⟨b7, 4, none⟩)) 1 hs130 ?_
 refine zA (.pointer (some ⟨b7, 7, none⟩)) 2 hs130 ?_
 refine zB 3 ⟨b7, 7, none⟩ (zu x_.d) (fun _ hS_ => (hS_.cellAt 0 rfl rfl)) hs130 ?_
 refine zA (.pointer (some ⟨b4, 2, none⟩)) 4 hs130 ?_
 refine zB 5 ⟨b4, 2, none⟩ (zi gb) (fun _ hS_ => (hS_.cellAt 1 rfl rfl)) hs130 ?_
 refine any_val (v := .int .u64 (IntKind.u64.wrap gb)) (v' := .int .u64 gb) 6 (by kernel_rfl) (fun _ => by kernel_rfl) (congrArg (Value.int .u64) (wrap_u64 (by omega) (by omega))) hs130 ?_
 refine zA (.bool (decide (x_.d ≥ gb))) 7 hs130 ?_
 refine any_done (by kernel_rfl) ?_
 refine hK129 _ _ ?_
 refine W.cond (decide (x_.d ≥ gb)) (by kernel_rfl) (fun h131 => ?_) (fun h131 => ?_)
 ·
  have h131p := of_decide_eq_true h131
  refine W.sr fun K132 hK132 => ?_
  refine zE 1 (hK132 _ _ ?_)
  refine W.ret (ret_block (ret_seq (ret_seq (ret_block (ret_seq ?_)))))
  have hs133 := St.tk0 hs130
  refine ret_of (.bool false) (by kernel_rfl) ⟨_, ⟨congrArg Value.bool (decide_eq_false (by first | (intro q; exact absurd q.1 (by assumption)) | (simp only [RightP, hm, true_and]; omega))).symm, rfl⟩, hs133⟩
 have h131p := of_decide_eq_false h131
 refine W.skip ?_
 refine normal_block ?_
 refine hK128 _ _ ?_
 refine W.region ?_
 refine zE 3 ?_
 refine loopAt_next ?_
 refine loopAt_round ?_
 refine W.seq fun K134 hK134 => ?_
 refine W.sr fun K135 hK135 => ?_
 refine zE 2 (hK135 _ _ ?_)
 refine W.cond_false false (by kernel_rfl) rfl ?_
 refine W.exit (exit_seq (exit_seq (exit_here ?_)))
 refine hK100 _ _ ?_
 refine W.sr fun K136 hK136 => ?_
 refine zR 1 ?_
 refine zL ⟨b7, 0, none⟩ (zu x_.k) (hs130.cellAt 0 rfl rfl) ?_
 refine zR 2 ?_
 rcases Bool.eq_false_or_eq_true (decide (x_.k = 1)) with h137 | h137
 ·
  have h137p := of_decide_eq_true h137
  refine zS 63 h137 ?_
  refine zS 62 h137 ?_
  refine zR 1 ?_
  refine zL ⟨b7, 9, none⟩ (zu x_.m) (hs130.cellAt 0 rfl rfl) ?_
  refine zR 3 ?_
  rcases Bool.eq_false_or_eq_true (decide (x_.m = 0)) with h138 | h138
  ·
   have h138p := of_decide_eq_true h138
   refine zS 68 h138 ?_
   refine zS 66 h138 ?_
   refine zS 67 h138 ?_
   refine zE 10 (hK136 _ _ ?_)
   refine W.ret ?_
   have hs139 := St.tk0 hs130
   refine ret_of (.bool true) (by kernel_rfl) ⟨_, ⟨congrArg Value.bool (decide_eq_true (by first | (intro q; exact absurd q.1 (by assumption)) | (simp only [RightP, hm, true_and]; omega))).symm, rfl⟩, hs139⟩
  have h138p := of_decide_eq_false h138
  refine zS 68 h138 ?_
  refine zS 66 h138 ?_
  refine zS 67 h138 ?_
  refine zR 1 ?_
  refine zL ⟨b7, 0, none⟩ (zu x_.k) (hs130.cellAt 0 rfl rfl) ?_
  refine zR 2 ?_
  rcases Bool.eq_false_or_eq_true (decide (x_.k = 2)) with h140 | h140
  ·
   have h140p := of_decide_eq_true h140
   refine zS 72 h140 ?_
   refine zS 71 h140 ?_
   refine zR 1 ?_
   refine zL ⟨b7, 3, none⟩ (zu x_.s) (hs130.cellAt 0 rfl rfl) ?_
   refine zE 4 (hK136 _ _ ?_)
   refine W.ret ?_
   have hs141 := St.tk0 hs130
   refine ret_of (.bool (decide (x_.s = 0))) (by kernel_rfl) ⟨_, ⟨congrArg Value.bool (decide_eq_decide.2 (by simp only [RightP, hm, true_and]; omega)), rfl⟩, hs141⟩
  have h140p := of_decide_eq_false h140
  refine zS 72 h140 ?_
  refine zS 71 h140 ?_
  refine zE 6 (hK136 _ _ ?_)
  refine W.ret ?_
  have hs142 := St.tk0 hs130
  refine ret_of (.bool false) (by kernel_rfl) ⟨_, ⟨congrArg Value.bool (decide_eq_false (by first | (intro q; exact absurd q.1 (by assumption)) | (simp only [RightP, hm, true_and]; omega))).symm, rfl⟩, hs142⟩
 have h137p := of_decide_eq_false h137
 refine zS 63 h137 ?_
 refine zS 62 h137 ?_
 refine zR 6 ?_
 refine zL ⟨b7, 0, none⟩ (zu x_.k) (hs130.cellAt 0 rfl rfl) ?_
 refine zR 2 ?_
 rcases Bool.eq_false_or_eq_true (decide (x_.k = 2)) with h143 | h143
 ·
  have h143p := of_decide_eq_true h143
  refine zS 72 h143 ?_
  refine zS 71 h143 ?_
  refine zR 1 ?_
  refine zL ⟨b7, 3, none⟩ (zu x_.s) (hs130.cellAt 0 rfl rfl) ?_
  refine zE 4 (hK136 _ _ ?_)
  refine W.ret ?_
  have hs144 := St.tk0 hs130
  refine ret_of (.bool (decide (x_.s = 0))) (by kernel_rfl) ⟨_, ⟨congrArg Value.bool (decide_eq_decide.2 (by simp only [RightP, hm, true_and]; omega)), rfl⟩, hs144⟩
 have h143p := of_decide_eq_false h143
 refine zS 72 h143 ?_
 refine zS 71 h143 ?_
 refine zE 6 (hK136 _ _ ?_)
 refine W.ret ?_
 have hs145 := St.tk0 hs130
 refine ret_of (.bool false) (by kernel_rfl) ⟨_, ⟨congrArg Value.bool (decide_eq_false (by first | (intro q; exact absurd q.1 (by assumption)) | (simp only [RightP, hm, true_and]; omega))).symm, rfl⟩, hs145⟩
theorem rset_spec {b : Nat} {img : List Int} {l : List (Int × Int)} {at_ x_ : Int} (B : Nat) (w : World) : Spec Tryz.prog 88 #[(zp b), (zi at_), (zu x_)] B w [refA (ptr b) img l] (fun v H' => v = .int .i64 (vwrite img l at_ x_).1 ∧ H' = [refA (ptr b) img (vwrite img l at_ x_).2]) := by
 refine spec_W Tryz.func88 rfl fun l0 hs => ?_
 refine W.sr fun K1 hK1 => ?_
 refine zE 1 (hK1 _ _ ?_)
 refine W.seq fun K2 hK2 => ?_
 refine W.seq fun K3 hK3 => ?_
 obtain ⟨⟨_, ia4, ic5, la6, lc7, mn8⟩, ⟨ex9, hok10⟩, hs11⟩ := St.open hs
 have hs12 : St B w l0 w [zb b 87 [(.slice ia4 img.length ic5), (.slice la6 l.length lc7), (.bool mn8)], kU64.row ia4 ic5 img, kWr.row la6 lc7 l] := by cases ex9; exact hs11
 have := hok10.many
 refine W.region ?_
 refine zR 3 ?_
 rcases Bool.eq_false_or_eq_true (decide (at_ < 0)) with h13 | h13
 ·
  have h13p := of_decide_eq_true h13
  refine zS 9 h13 ?_
  refine zS 8 h13 ?_
  refine zE 8 ?_
  have hs14 : St B w l0 w [refA (ptr b) img l] := ref_close (l := l) (ia := ia4) (ic := ic5) (la := la6) (lc := lc7) (many := mn8) hok10 hs12
  refine hK3 _ _ ?_
  refine W.cond_true true (by kernel_rfl) rfl ?_
  refine W.sr fun K15 hK15 => ?_
  refine zE 1 (hK15 _ _ ?_)
  refine W.ret (ret_seq ?_)
  have e1_ : (vwrite img l at_ x_).1 = 8 := by first | (exfalso; omega) | (simp only [vwrite]; rw [if_pos (by omega)]) | (simp only [vwrite]; rw [if_neg (by omega), if_pos (by assumption)]) | (simp only [vwrite]; rw [if_neg (by omega), if_neg (by assumption)])
  have e2_ : (vwrite img l at_ x_).2 = l := by first | (exfalso; omega) | (simp only [vwrite]; rw [if_pos (by omega)]) | (simp only [vwrite]; rw [if_neg (by omega), if_pos (by assumption)]) | (simp only [vwrite]; rw [if_neg (by omega), if_neg (by assumption)])
  refine ret_of (zi 8) (by kernel_rfl) ⟨_, ⟨by rw [e1_], by rw [e2_]⟩, hs14⟩
 have h13p := of_decide_eq_false h13
 refine zS 9 h13 ?_
 refine zS 8 h13 ?_
 refine zR 4 ?_
 refine zL ⟨b, 0, none⟩ (.slice ia4 img.length ic5) (hs12.cellAt 0 rfl rfl) ?_
 refine zE 3 ?_
 have hs16 : St B w l0 w [refA (ptr b) img l] := ref_close (l := l) (ia := ia4) (ic := ic5) (la := la6) (lc := lc7) (many := mn8) hok10 hs12
 refine hK3 _ _ ?_
 refine W.cond (decide (at_ ≥ (img.length : Int))) (by kernel_rfl) (fun h17 => ?_) (fun h17 => ?_)
 ·
  have h17p := of_decide_eq_true h17
  refine W.sr fun K18 hK18 => ?_
  refine zE 1 (hK18 _ _ ?_)
  refine W.ret (ret_seq ?_)
  have e1_ : (vwrite img l at_ x_).1 = 8 := by first | (exfalso; omega) | (simp only [vwrite]; rw [if_pos (by omega)]) | (simp only [vwrite]; rw [if_neg (by omega), if_pos (by assumption)]) | (simp only [vwrite]; rw [if_neg (by omega), if_neg (by assumption)])
  have e2_ : (vwrite img l at_ x_).2 = l := by first | (exfalso; omega) | (simp only [vwrite]; rw [if_pos (by omega)]) | (simp only [vwrite]; rw [if_neg (by omega), if_pos (by assumption)]) | (simp only [vwrite]; rw [if_neg (by omega), if_neg (by assumption)])
  refine ret_of (zi 8) (by kernel_rfl) ⟨_, ⟨by rw [e1_], by rw [e2_]⟩, hs16⟩
 have h17p := of_decide_eq_false h17
 refine W.skip ?_
 refine hK2 _ _ ?_
 refine W.seq fun K19 hK19 => ?_
 refine W.sr fun K20 hK20 => ?_
 refine zR 2 ?_
 refine zC00 hs16 (rget_spec (at_ := at_) (hv := (hs16.entAt 0 rfl refA_at)) B _) fun w21 hs23 => ?_
 refine zE 2 (hK20 _ _ ?_)
 refine W.cond (decide ((vget img l at_) = x_)) (by kernel_rfl) (fun h24 => ?_) (fun h24 => ?_)
 ·
  have h24p := of_decide_eq_true h24
  refine W.sr fun K25 hK25 => ?_
  refine zE 1 (hK25 _ _ ?_)
  refine W.ret (ret_seq ?_)
  have e1_ : (vwrite img l at_ x_).1 = 0 := by first | (exfalso; omega) | (simp only [vwrite]; rw [if_pos (by omega)]) | (simp only [vwrite]; rw [if_neg (by omega), if_pos (by assumption)]) | (simp only [vwrite]; rw [if_neg (by omega), if_neg (by assumption)])
  have e2_ : (vwrite img l at_ x_).2 = l := by first | (exfalso; omega) | (simp only [vwrite]; rw [if_pos (by omega)]) | (simp only [vwrite]; rw [if_neg (by omega), if_pos (by assumption)]) | (simp only [vwrite]; rw [if_neg (by omega), if_neg (by assumption)])
  refine ret_of (zi 0) (by kernel_rfl) ⟨_, ⟨by rw [e1_], by rw [e2_]⟩, hs23⟩
 have h24p := of_decide_eq_false h24
 refine W.skip ?_
 refine hK19 _ _ ?_
 refine W.sr fun K26 hK26 => ?_
 refine zR 3 ?_
 refine zC11 hs23 (rput_spec (p := (zp b)) (img := img) (l := l) (at_ := at_) (x_ := x_) B _) fun w27 hs29 => ?_
 refine zE 1 (hK26 _ _ ?_)
 refine W.ret ?_
 have e1_ : (vwrite img l at_ x_).1 = (vput img l at_ x_).1 := by first | (exfalso; omega) | (simp only [vwrite]; rw [if_pos (by omega)]) | (simp only [vwrite]; rw [if_neg (by omega), if_pos (by assumption)]) | (simp only [vwrite]; rw [if_neg (by omega), if_neg (by assumption)])
 have e2_ : (vwrite img l at_ x_).2 = (vput img l at_ x_).2 := by first | (exfalso; omega) | (simp only [vwrite]; rw [if_pos (by omega)]) | (simp only [vwrite]; rw [if_neg (by omega), if_pos (by assumption)]) | (simp only [vwrite]; rw [if_neg (by omega), if_neg (by assumption)])
 refine ret_of (zi ((vput img l at_ x_).1)) (by kernel_rfl) ⟨_, ⟨by rw [e1_], by rw [e2_]⟩, hs29⟩
end Go.Proofs.YtmmclabkkigiaaaGreat

set_option maxRecDepth 20000
namespace Go.Proofs.YtmmclabkkigiaaaGreat
open Go Go.RowKit
theorem rall_spec {b : Nat} {img : List Int} {l : List (Int × Int)} {at_ : Int} {la : Option Addr} {n lc : Nat} {ws : List Int} (B : Nat) (w : World) (hn : n = ws.length) (hsz : ws.length ≤ 1000000) (hat : -1 ≤ at_ ∧ at_ ≤ 1000000) : Spec Tryz.prog 57 #[(zp b), (zi at_), (.slice la n lc)] B w [refA (ptr b) img l, kU64.row la lc ws] (fun v H' => v = .int .i64 (vwrites img at_ l 0 ws).1 ∧ H' = [refA (ptr b) img (vwrites img at_ l 0 ws).2]) := by
 refine spec_W Tryz.func57 rfl fun l0 hs => ?_
 subst hn
 refine W.sr fun K1 hK1 => ?_
 refine zE 1 (hK1 _ _ ?_)
 refine W.seq fun K2 hK2 => ?_
 refine W.sr fun K3 hK3 => ?_
 refine zE 1 (hK3 _ _ ?_)
 refine W.block ?_
 refine W.loop (G := Nat × List (Int × Int)) (fun | (k, m), s_, w_ => (∃ us, s_ = slots 27 [(0, (zp b)), (1, (zi at_)), (2, (.slice la ws.length lc)), (7, (zi (k : Int)))] us) ∧ St B w l0 w_ [refA (ptr b) img m, kU64.row la lc ws] ∧ (k ≤ ws.length) ∧ (vwrites img at_ l 0 ws = vwrites img at_ m (k : Int) (ws.drop k))) (fun | (k, m) => ws.length - k) (0, l) ⟨slots_intro _ (by kernel_rfl), hs, Nat.zero_le _, rfl⟩ ?_
 rintro ⟨k, m⟩ _ w4 ⟨⟨us, rfl⟩, hs5, hk_, hkm⟩
 refine W.seq fun K6 hK6 => ?_
 refine W.sr fun K7 hK7 => ?_
 refine zE 4 (hK7 _ _ ?_)
 refine W.cond (decide ((k : Int) < (ws.length : Int))) (by kernel_rfl) (fun h8 => ?_) (fun h8 => ?_)
 ·
  have h8p := of_decide_eq_true h8
  refine W.skip ?_
  refine hK6 _ _ ?_
  refine W.seq fun K9 hK9 => ?_
  refine W.block ?_
  refine W.sr fun K10 hK10 => ?_
  refine zR 3 ?_
  refine zI (at_ + (k : Int)) (wrap_i64 (by omega) (by omega)) ?_
  refine zR 2 ?_
  have hk11 : k < ws.length := by omega
  refine ops_R (runs_index (a := la) (n := ws.length) (z := (k : Int)) (size := 1) k rfl hk11 (kU64.addr (St.kcells kU64 hs5 1 rfl) hk11) (by kernel_rfl)) ?_
  refine zL ((adr la (k * 1)).add 0) (zu (ws.getD k 0)) (kU64.at (St.kcells kU64 hs5 1 rfl) hk11 0 0 rfl) ?_
  refine zC11 hs5 (rset_spec (b := b) (img := img) (l := m) (at_ := (at_ + (k : Int))) (x_ := (ws.getD k 0)) B _) fun w12 hs14 => ?_
  refine zE 1 (hK10 _ _ ?_)
  refine W.sr fun K15 hK15 => ?_
  refine zE 2 (hK15 _ _ ?_)
  refine W.cond (!decide ((vwrite img m (at_ + (k : Int)) (ws.getD k 0)).1 = 0)) (by kernel_rfl) (fun h16 => ?_) (fun h16 => ?_)
  ·
   have h16p : ¬ ((vwrite img m (at_ + (k : Int)) (ws.getD k 0)).1 = 0) := of_decide_eq_false (bnot_true h16)
   refine W.sr fun K17 hK17 => ?_
   refine zE 2 (hK17 _ _ ?_)
   refine W.ret (ret_block (ret_seq (ret_seq (ret_block (ret_seq ?_)))))
   have hs18 := St.tk1 hs14
   have e_ : vwrites img at_ l 0 ws = vwrite img m (at_ + (k : Int)) (ws.getD k 0) := hkm.trans ((vwrites_step (by omega)).trans (if_neg (by assumption)))
   refine ret_of (zi ((vwrite img m (at_ + (k : Int)) (ws.getD k 0)).1)) (by kernel_rfl) ⟨_, ⟨by rw [e_], by rw [e_]⟩, hs18⟩
  have h16p : (vwrite img m (at_ + (k : Int)) (ws.getD k 0)).1 = 0 := of_decide_eq_true (bnot_false h16)
  refine W.skip ?_
  refine normal_block ?_
  refine hK9 _ _ ?_
  refine W.region ?_
  refine zR 1 ?_
  refine ops_val (v := .int .i64 (IntKind.i64.wrap ((k : Int) + 1))) (v' := .int .i64 ((k + 1 : Nat) : Int)) (by kernel_rfl) (congrArg (Value.int .i64) (wrap_i64 (by omega) (by omega))) ?_
  refine zE 1 ?_
  have e0_ : (vwrite img m (at_ + (k : Int)) (ws.getD k 0)).1 = 0 := by assumption
  have hk2 := (vwrites_step (img := img) (at_ := at_) (m := m) (ws := ws) (k := k) (by omega)).trans (if_pos e0_)
  exact ⟨(k + 1, (vwrite img m (at_ + (k : Int)) (ws.getD k 0)).2), ⟨slots_intro _ (by kernel_rfl), hs14, by omega, hkm.trans hk2⟩, by first | omega | (dsimp only; omega)⟩
 have h8p := of_decide_eq_false h8
 refine W.exit (exit_seq (exit_seq (exit_here ?_)))
 refine hK2 _ _ ?_
 refine W.sr fun K19 hK19 => ?_
 refine zE 1 (hK19 _ _ ?_)
 refine W.ret ?_
 have hs20 := St.tk1 hs5
 have e_ : vwrites img at_ l 0 ws = (0, m) := hkm.trans (by rw [List.drop_of_length_le (by omega)]; rfl)
 refine ret_of (zi 0) (by kernel_rfl) ⟨_, ⟨by rw [e_], by rw [e_]⟩, hs20⟩
theorem ifind_spec {b : Nat} {img : List Int} {l : List (Int × Int)} {gw gi gb n_ : Int} (B : Nat) (w : World) (hv : ViewAt (ptr b) img l w) : Spec Tryz.prog 42 #[(zp b), (.agg #[(zi gw), (zi gi), (zi gb)]), (zi n_)] B w [] (fun v H' => v = .tuple #[.int .i64 (ifind (img.length : Int) gw gi gb n_).1, .int .i64 (ifind (img.length : Int) gw gi gb n_).2] ∧ H' = []) := by
 refine spec_Q Tryz.func42 rfl fun hs => ?_
 refine W.sr fun K1 hK1 => ?_
 refine zN [(zi gw), (zi gi), (zi gb)] 24 hs fun b4 w2 hs3 => ?_
 refine zE 2 (hK1 _ _ ?_)
 refine W.sr fun K5 hK5 => ?_
 refine zG ⟨b4, 0, none⟩ [(zi gw), (zi gi), (zi gb)] (cells_sub (hs3.heapAt 0 rfl) rfl) ?_
 refine zR 1 ?_
 refine zC00 hs3 (inodeat_spec (gw := gw) (gi := gi) (gb := gb) (n_ := n_) B _) fun w6 hs8 => ?_
 refine zE 1 (hK5 _ _ ?_)
 refine W.seq fun K9 hK9 => ?_
 refine W.block ?_
 refine W.sr fun K10 hK10 => ?_
 refine zE 3 (hK10 _ _ ?_)
 refine W.cond_false false (by kernel_rfl) rfl ?_
 refine W.seq fun K11 hK11 => ?_
 refine W.sr fun K12 hK12 => ?_
 refine zE 3 (hK12 _ _ ?_)
 refine W.cond (decide ((placeOf 8 gw gi gb n_) < 0)) (by kernel_rfl) (fun h13 => ?_) (fun h13 => ?_)
 ·
  have h13p := of_decide_eq_true h13
  refine W.skip ?_
  refine hK11 _ _ ?_
  refine W.cond (decide ((placeOf 8 gw gi gb n_) < 0)) (by kernel_rfl) (fun h14 => ?_) (fun h14 => ?_)
  ·
   have h14p := of_decide_eq_true h14
   refine W.sr fun K15 hK15 => ?_
   refine zE 2 (hK15 _ _ ?_)
   refine W.ret (ret_block (ret_seq ?_))
   have hs16 := St.tk0 hs8
   have e1_ : (ifind (img.length : Int) gw gi gb n_).1 = 0 := by first | (exfalso; omega) | (simp only [ifind]; rw [if_pos (by omega)]) | (simp only [ifind]; rw [if_neg (by omega), if_pos (by omega)]) | (simp only [ifind]; rw [if_neg (by omega), if_neg (by omega)])
   have e2_ : (ifind (img.length : Int) gw gi gb n_).2 = 1 := by first | (exfalso; omega) | (simp only [ifind]; rw [if_pos (by omega)]) | (simp only [ifind]; rw [if_neg (by omega), if_pos (by omega)]) | (simp only [ifind]; rw [if_neg (by omega), if_neg (by omega)])
   refine ret_of (.tuple #[(zi 0), (zi 1)]) (by kernel_rfl) ⟨_, ⟨by rw [e1_, e2_], rfl⟩, hs16⟩
  have h14p := of_decide_eq_false h14
  refine W.seq fun K17 hK17 => ?_
  have hs18 := hs8.drew
  refine W.regionD [(0, 0), (1, 1), (0, 0), (6, 4), (10, 10), (24, 16)] (fun w_ => St B w [] w_ [zb b4 24 [(zi gw), (zi gi), (zi gb)]]) (by kernel_rfl) hs18 ?_
  refine zA (zp b) 0 hs18 ?_
  refine any_R 2 (by kernel_rfl) (fun _ hS_ => runs_loadAgg (ad := ⟨b4, 0, none⟩) (cs := [(zi gw), (zi gi), (zi gb)]) (by kernel_rfl) (cells_sub (hS_.heapAt 0 rfl) rfl)) hs18 ?_
  refine any_step 1 (by kernel_rfl) (by kernel_rfl) ?_
  refine zC00 hs18 (len_spec (hv := (viewAt_old hs18 hv)) B _) fun w19 hs21 => ?_
  refine ops_done (by kernel_rfl) ⟨hs21, ?_⟩
  refine any_step 3 (by kernel_rfl) (by kernel_rfl) ?_
  refine zC00 hs21 (lwords_spec (gw := gw) (gi := gi) (gb := gb) B _) fun w22 hs24 => ?_
  refine ops_done (by kernel_rfl) ⟨hs24, ?_⟩
  refine zA (.bool (decide ((img.length : Int) < (wordsOf gw gi gb)))) 4 hs24 ?_
  refine zA (.bool (decide ((img.length : Int) < (wordsOf gw gi gb)))) 5 hs24 ?_
  refine any_done (by kernel_rfl) ?_
  refine hK17 _ _ ?_
  refine W.cond (decide ((img.length : Int) < (wordsOf gw gi gb))) (by kernel_rfl) (fun h25 => ?_) (fun h25 => ?_)
  ·
   have h25p := of_decide_eq_true h25
   refine W.sr fun K26 hK26 => ?_
   refine zE 2 (hK26 _ _ ?_)
   refine W.ret (ret_block (ret_seq ?_))
   have hs27 := St.tk0 hs24
   have e1_ : (ifind (img.length : Int) gw gi gb n_).1 = 0 := by first | (exfalso; omega) | (simp only [ifind]; rw [if_pos (by omega)]) | (simp only [ifind]; rw [if_neg (by omega), if_pos (by omega)]) | (simp only [ifind]; rw [if_neg (by omega), if_neg (by omega)])
   have e2_ : (ifind (img.length : Int) gw gi gb n_).2 = 8 := by first | (exfalso; omega) | (simp only [ifind]; rw [if_pos (by omega)]) | (simp only [ifind]; rw [if_neg (by omega), if_pos (by omega)]) | (simp only [ifind]; rw [if_neg (by omega), if_neg (by omega)])
   refine ret_of (.tuple #[(zi 0), (zi 8)]) (by kernel_rfl) ⟨_, ⟨by rw [e1_, e2_], rfl⟩, hs27⟩
  have h25p := of_decide_eq_false h25
  refine W.skip ?_
  refine normal_block ?_
  refine hK9 _ _ ?_
  refine W.sr fun K28 hK28 => ?_
  refine zE 3 (hK28 _ _ ?_)
  refine W.ret ?_
  have hs29 := St.tk0 hs24
  have e1_ : (ifind (img.length : Int) gw gi gb n_).1 = (placeOf 8 gw gi gb n_) := by first | (exfalso; omega) | (simp only [ifind]; rw [if_pos (by omega)]) | (simp only [ifind]; rw [if_neg (by omega), if_pos (by omega)]) | (simp only [ifind]; rw [if_neg (by omega), if_neg (by omega)])
  have e2_ : (ifind (img.length : Int) gw gi gb n_).2 = 0 := by first | (exfalso; omega) | (simp only [ifind]; rw [if_pos (by omega)]) | (simp only [ifind]; rw [if_neg (by omega), if_pos (by omega)]) | (simp only [ifind]; rw [if_neg (by omega), if_neg (by omega)])
  refine ret_of (.tuple #[(zi (placeOf 8 gw gi gb n_)), (zi 0)]) (by kernel_rfl) ⟨_, ⟨by rw [e1_, e2_], rfl⟩, hs29⟩
 have h13p := of_decide_eq_false h13
 refine W.region ?_
 refine zE 3 (hK11 _ _ ?_)
 refine W.cond (decide (n_ = 0)) (by kernel_rfl) (fun h30 => ?_) (fun h30 => ?_)
 ·
  have h30p := of_decide_eq_true h30
  refine W.sr fun K31 hK31 => ?_
  refine zE 2 (hK31 _ _ ?_)
  refine W.ret (ret_block (ret_seq ?_))
  have hs32 := St.tk0 hs8
  have e1_ : (ifind (img.length : Int) gw gi gb n_).1 = 0 := by first | (exfalso; omega) | (simp only [ifind]; rw [if_pos (by omega)]) | (simp only [ifind]; rw [if_neg (by omega), if_pos (by omega)]) | (simp only [ifind]; rw [if_neg (by omega), if_neg (by omega)])
  have e2_ : (ifind (img.length : Int) gw gi gb n_).2 = 1 := by first | (exfalso; omega) | (simp only [ifind]; rw [if_pos (by omega)]) | (simp only [ifind]; rw [if_neg (by omega), if_pos (by omega)]) | (simp only [ifind]; rw [if_neg (by omega), if_neg (by omega)])
  refine ret_of (.tuple #[(zi 0), (zi 1)]) (by kernel_rfl) ⟨_, ⟨by rw [e1_, e2_], rfl⟩, hs32⟩
 have h30p := of_decide_eq_false h30
 refine W.seq fun K33 hK33 => ?_
 have hs34 := hs8.drew
 refine W.regionD [(0, 0), (1, 1), (0, 0), (6, 4), (10, 10), (24, 16)] (fun w_ => St B w [] w_ [zb b4 24 [(zi gw), (zi gi), (zi gb)]]) (by kernel_rfl) hs34 ?_
 refine zA (zp b) 0 hs34 ?_
 refine any_R 2 (by kernel_rfl) (fun _ hS_ => runs_loadAgg (ad := ⟨b4, 0, none⟩) (cs := [(zi gw), (zi gi), (zi gb)]) (by kernel_rfl) (cells_sub (hS_.heapAt 0 rfl) rfl)) hs34 ?_
 refine any_step 1 (by kernel_rfl) (by kernel_rfl) ?_
 refine zC00 hs34 (len_spec (hv := (viewAt_old hs34 hv)) B _) fun w35 hs37 => ?_
 refine ops_done (by kernel_rfl) ⟨hs37, ?_⟩
 refine any_step 3 (by kernel_rfl) (by kernel_rfl) ?_
 refine zC00 hs37 (lwords_spec (gw := gw) (gi := gi) (gb := gb) B _) fun w38 hs40 => ?_
 refine ops_done (by kernel_rfl) ⟨hs40, ?_⟩
 refine zA (.bool (decide ((img.length : Int) < (wordsOf gw gi gb)))) 4 hs40 ?_
 refine zA (.bool (decide ((img.length : Int) < (wordsOf gw gi gb)))) 5 hs40 ?_
 refine any_done (by kernel_rfl) ?_
 refine hK33 _ _ ?_
 refine W.cond (decide ((img.length : Int) < (wordsOf gw gi gb))) (by kernel_rfl) (fun h41 => ?_) (fun h41 => ?_)
 ·
  have h41p := of_decide_eq_true h41
  refine W.sr fun K42 hK42 => ?_
  refine zE 2 (hK42 _ _ ?_)
  refine W.ret (ret_block (ret_seq ?_))
  have hs43 := St.tk0 hs40
  have e1_ : (ifind (img.length : Int) gw gi gb n_).1 = 0 := by first | (exfalso; omega) | (simp only [ifind]; rw [if_pos (by omega)]) | (simp only [ifind]; rw [if_neg (by omega), if_pos (by omega)]) | (simp only [ifind]; rw [if_neg (by omega), if_neg (by omega)])
  have e2_ : (ifind (img.length : Int) gw gi gb n_).2 = 8 := by first | (exfalso; omega) | (simp only [ifind]; rw [if_pos (by omega)]) | (simp only [ifind]; rw [if_neg (by omega), if_pos (by omega)]) | (simp only [ifind]; rw [if_neg (by omega), if_neg (by omega)])
  refine ret_of (.tuple #[(zi 0), (zi 8)]) (by kernel_rfl) ⟨_, ⟨by rw [e1_, e2_], rfl⟩, hs43⟩
 have h41p := of_decide_eq_false h41
 refine W.skip ?_
 refine normal_block ?_
 refine hK9 _ _ ?_
 refine W.sr fun K44 hK44 => ?_
 refine zE 3 (hK44 _ _ ?_)
 refine W.ret ?_
 have hs45 := St.tk0 hs40
 have e1_ : (ifind (img.length : Int) gw gi gb n_).1 = (placeOf 8 gw gi gb n_) := by first | (exfalso; omega) | (simp only [ifind]; rw [if_pos (by omega)]) | (simp only [ifind]; rw [if_neg (by omega), if_pos (by omega)]) | (simp only [ifind]; rw [if_neg (by omega), if_neg (by omega)])
 have e2_ : (ifind (img.length : Int) gw gi gb n_).2 = 0 := by first | (exfalso; omega) | (simp only [ifind]; rw [if_pos (by omega)]) | (simp only [ifind]; rw [if_neg (by omega), if_pos (by omega)]) | (simp only [ifind]; rw [if_neg (by omega), if_neg (by omega)])
 refine ret_of (.tuple #[(zi (placeOf 8 gw gi gb n_)), (zi 0)]) (by kernel_rfl) ⟨_, ⟨by rw [e1_, e2_], rfl⟩, hs45⟩
theorem inode_spec {x_ : Nd} (B : Nat) (w : World) : Spec Tryz.prog 44 #[(.agg #[(zu x_.k), (zu x_.l), (zu x_.o), (zu x_.s), (zu x_.a), (zu x_.b), (zu x_.c), (zu x_.d), (zu x_.e), (zu x_.m)])] B w [] (fun v H' => v = (.agg #[(zu x_.k), (zu x_.l), (zu x_.o), (zu x_.s), (zu x_.a), (zu x_.b), (zu x_.c), (zu x_.d), (zu x_.e), (zu x_.m)]) ∧ H' = []) := by
 refine spec_Q Tryz.func44 rfl fun hs => ?_
 refine W.sr fun K1 hK1 => ?_
 refine zN [(zu x_.k), (zu x_.l), (zu x_.o), (zu x_.s), (zu x_.a), (zu x_.b), (zu x_.c), (zu x_.d), (zu x_.e), (zu x_.m)] 113 hs fun b4 w2 hs3 => ?_
 refine zN [(zu 0), (zu 0), (zu 0), (zu 0), (zu 0), (zu 0), (zu 0), (zu 0), (zu 0), (zu 0)] 65 hs3 fun b7 w5 hs6 => ?_
 refine zD (hK1 _ _ ?_)
 refine W.seq fun K8 hK8 => ?_
 have hs9 := hs6.drew
 have hs10 := St.f1 hs9
 have hs11 := St.tk1 hs10
 refine W.regionD [(0, 0), (1, 1), (0, 0), (4, 4), (0, 0), (16, 16), (0, 0), (64, 64), (0, 0), (256, 256), (512, 512), (0, 0), (2048, 2048), (0, 0), (8192, 8192), (21674, 21674), (65535, 32768)] (fun w_ => St B w [] w_ [zb b4 113 [(zu x_.k), (zu x_.l), (zu x_.o), (zu x_.s), (zu x_.a), (zu x_.b), (zu x_.c), (zu x_.d), (zu x_.e), (zu x_.m)]]) (by kernel_rfl) hs11 ?_
 refine zA (zp b4) 0 hs11 ?_
 refine zB 1 ⟨b4, 0, none⟩ (zu x_.k) (fun _ hS_ => (hS_.cellAt 0 rfl rfl)) hs11 ?_
 refine zA (.pointer (some ⟨b4, 1, none⟩)) 2 hs11 ?_
 refine zB 3 ⟨b4, 1, none⟩ (zu x_.l) (fun _ hS_ => (hS_.cellAt 0 rfl rfl)) hs11 ?_
 refine zA (.pointer (some ⟨b4, 2, none⟩)) 4 hs11 ?_
 refine zB 5 ⟨b4, 2, none⟩ (zu x_.o) (fun _ hS_ => (hS_.cellAt 0 rfl rfl)) hs11 ?_
 refine zA (.pointer (some ⟨b4, 3, none⟩)) 6 hs11 ?_
 refine zB 7 ⟨b4, 3, none⟩ (zu x_.s) (fun _ hS_ => (hS_.cellAt 0 rfl rfl)) hs11 ?_
 refine zA (.slice (some ⟨b4, 4, none⟩) 4 6) 8 hs11 ?_
 refine zA (.pointer (some ⟨b4, 4, none⟩)) 9 hs11 ?_
 refine any_R 10 (by kernel_rfl) (fun _ hS_ => runs_loadAgg (ad := ⟨b4, 4, none⟩) (cs := [(zu x_.a), (zu x_.b), (zu x_.c), (zu x_.d)]) (by kernel_rfl) (cells_sub (hS_.heapAt 0 rfl) rfl)) hs11 ?_
 refine zA (.pointer (some ⟨b4, 8, none⟩)) 11 hs11 ?_
 refine zB 12 ⟨b4, 8, none⟩ (zu x_.e) (fun _ hS_ => (hS_.cellAt 0 rfl rfl)) hs11 ?_
 refine zA (.pointer (some ⟨b4, 9, none⟩)) 13 hs11 ?_
 refine zB 14 ⟨b4, 9, none⟩ (zu x_.m) (fun _ hS_ => (hS_.cellAt 0 rfl rfl)) hs11 ?_
 refine zA (.agg #[(zu x_.k), (zu x_.l), (zu x_.o), (zu x_.s), (zu x_.a), (zu x_.b), (zu x_.c), (zu x_.d), (zu x_.e), (zu x_.m)]) 15 hs11 ?_
 refine any_step 16 (by kernel_rfl) (by kernel_rfl) ?_
 refine zT 0 [(zu x_.k), (zu x_.l), (zu x_.o), (zu x_.s), (zu x_.a), (zu x_.b), (zu x_.c), (zu x_.d), (zu x_.e), (zu x_.m)] [(zu x_.k), (zu x_.l), (zu x_.o), (zu x_.s), (zu x_.a), (zu x_.b), (zu x_.c), (zu x_.d), (zu x_.e), (zu x_.m)] hs9 fun w12 hs14 => ?_
 have hs15 := St.f1 hs14
 have hs16 := St.tk1 hs15
 refine ops_done (by kernel_rfl) ⟨hs16, ?_⟩
 refine any_done (by kernel_rfl) ?_
 refine hK8 _ _ ?_
 refine W.ret ?_
 have hs17 := St.tk0 hs14
 refine ret_of (.agg #[(zu x_.k), (zu x_.l), (zu x_.o), (zu x_.s), (zu x_.a), (zu x_.b), (zu x_.c), (zu x_.d), (zu x_.e), (zu x_.m)]) (results_cell (ad := ⟨b7, 0, none⟩) (cs := [(zu x_.k), (zu x_.l), (zu x_.o), (zu x_.s), (zu x_.a), (zu x_.b), (zu x_.c), (zu x_.d), (zu x_.e), (zu x_.m)]) rfl (by kernel_rfl) (by kernel_rfl) (cells_sub (hs14.heapAt 0 rfl) rfl)) ⟨_, ⟨rfl, rfl⟩, hs17⟩
end Go.Proofs.YtmmclabkkigiaaaGreat

set_option maxRecDepth 20000
namespace Go.Proofs.YtmmclabkkigiaaaGreat
open Go Go.RowKit
theorem there_spec {p : Value} {img : List Int} {l : List (Int × Int)} {gw gi gb n_ : Int} (B : Nat) (w : World) (hv : RefAt p img l w) : Spec Tryz.prog 61 #[p, (.agg #[(zi gw), (zi gi), (zi gb)]), (zi n_)] B w [] (fun v H' => v = .int .i64 (ifind (img.length : Int) gw gi gb n_).2 ∧ H' = []) := by
 refine spec_Q Tryz.func61 rfl fun hs => ?_
 have hv0 := hv
 obtain ⟨x, rfl, hok, hb, hi, ho, hcap⟩ := hv
 have hroom := hok.many
 have hroom2 := hok.size
 refine W.sr fun K1 hK1 => ?_
 refine zN [(zi gw), (zi gi), (zi gb)] 37 hs fun b4 w2 hs3 => ?_
 refine zE 1 (hK1 _ _ ?_)
 refine W.seq fun K5 hK5 => ?_
 refine W.sr fun K6 hK6 => ?_
 refine zG ⟨b4, 0, none⟩ [(zi gw), (zi gi), (zi gb)] (cells_sub (hs3.heapAt 0 rfl) rfl) ?_
 refine zC00 hs3 (rmay_spec (gw := gw) (gi := gi) (gb := gb) B _) fun w7 hs9 => ?_
 refine zR 2 ?_
 rcases Bool.eq_false_or_eq_true (!(decide (May gw gi gb))) with h10 | h10
 ·
  have h10p : ¬ (May gw gi gb) := of_decide_eq_false (bnot_true h10)
  refine zS 10 h10 ?_
  refine zS 9 h10 ?_
  refine zE 9 (hK6 _ _ ?_)
  refine W.cond_true true (by kernel_rfl) rfl ?_
  refine W.sr fun K11 hK11 => ?_
  refine zE 1 (hK11 _ _ ?_)
  refine W.ret (ret_seq ?_)
  have hs12 := St.tk0 hs9
  refine ret_of (zi 1) (by kernel_rfl) ⟨_, ⟨congrArg (Value.int .i64) (by rcases place8_cases gw gi gb n_ with ⟨q1, q2⟩ | ⟨q1, q2, q3⟩ <;> (try have q1_ := may_out q1) <;> first | contradiction | (exfalso; omega) | (exfalso; exact q2 ⟨by assumption, by omega, by omega⟩) | (simp only [ifind]; rw [if_pos (by omega)]) | (simp only [ifind]; rw [if_neg (by omega), if_pos (by omega)]) | (simp only [ifind]; rw [if_neg (by omega), if_neg (by omega)])), rfl⟩, hs12⟩
 have h10p : May gw gi gb := of_decide_eq_true (bnot_false h10)
 refine zS 10 h10 ?_
 refine zS 9 h10 ?_
 refine zR 4 ?_
 rcases Bool.eq_false_or_eq_true (decide (n_ < 1)) with h13 | h13
 ·
  have h13p := of_decide_eq_true h13
  refine zS 14 h13 ?_
  refine zS 12 h13 ?_
  refine zS 13 h13 ?_
  refine zE 5 (hK6 _ _ ?_)
  refine W.cond_true true (by kernel_rfl) rfl ?_
  refine W.sr fun K14 hK14 => ?_
  refine zE 1 (hK14 _ _ ?_)
  refine W.ret (ret_seq ?_)
  have hs15 := St.tk0 hs9
  refine ret_of (zi 1) (by kernel_rfl) ⟨_, ⟨congrArg (Value.int .i64) (by rcases place8_cases gw gi gb n_ with ⟨q1, q2⟩ | ⟨q1, q2, q3⟩ <;> (try have q1_ := may_out q1) <;> first | contradiction | (exfalso; omega) | (exfalso; exact q2 ⟨by assumption, by omega, by omega⟩) | (simp only [ifind]; rw [if_pos (by omega)]) | (simp only [ifind]; rw [if_neg (by omega), if_pos (by omega)]) | (simp only [ifind]; rw [if_neg (by omega), if_neg (by omega)])), rfl⟩, hs15⟩
 have h13p := of_decide_eq_false h13
 refine zS 14 h13 ?_
 refine zS 12 h13 ?_
 refine zS 13 h13 ?_
 refine zR 2 ?_
 refine zL ⟨b4, 1, none⟩ (zi gi) (hs9.cellAt 0 rfl rfl) ?_
 refine zE 2 (hK6 _ _ ?_)
 refine W.cond (decide (n_ ≥ gi)) (by kernel_rfl) (fun h16 => ?_) (fun h16 => ?_)
 ·
  have h16p := of_decide_eq_true h16
  refine W.sr fun K17 hK17 => ?_
  refine zE 1 (hK17 _ _ ?_)
  refine W.ret (ret_seq ?_)
  have hs18 := St.tk0 hs9
  refine ret_of (zi 1) (by kernel_rfl) ⟨_, ⟨congrArg (Value.int .i64) (by rcases place8_cases gw gi gb n_ with ⟨q1, q2⟩ | ⟨q1, q2, q3⟩ <;> (try have q1_ := may_out q1) <;> first | contradiction | (exfalso; omega) | (exfalso; exact q2 ⟨by assumption, by omega, by omega⟩) | (simp only [ifind]; rw [if_pos (by omega)]) | (simp only [ifind]; rw [if_neg (by omega), if_pos (by omega)]) | (simp only [ifind]; rw [if_neg (by omega), if_neg (by omega)])), rfl⟩, hs18⟩
 have h16p := of_decide_eq_false h16
 refine W.skip ?_
 refine hK5 _ _ ?_
 refine W.seq fun K19 hK19 => ?_
 refine W.seq fun K20 hK20 => ?_
 have hs21 := hs9.drew
 refine W.regionD [(0, 0), (1, 1), (2, 2), (4, 4), (8, 8), (0, 0), (32, 32), (80, 80)] (fun w_ => St B w [] w_ [zb b4 37 [(zi gw), (zi gi), (zi gb)]]) (by kernel_rfl) hs21 ?_
 refine zA (zp x.b) 0 hs21 ?_
 refine zA (zp x.b) 1 hs21 ?_
 refine zA (zp x.b) 2 hs21 ?_
 refine zB 3 ⟨x.b, 0, none⟩ (.slice x.ia img.length x.ic) (fun _ hS_ => (cell_of_blk (hS_.old hb) rfl)) hs21 ?_
 refine zA (zi (img.length : Int)) 4 hs21 ?_
 refine any_R 5 (by kernel_rfl) (fun _ hS_ => runs_loadAgg (ad := ⟨b4, 0, none⟩) (cs := [(zi gw), (zi gi), (zi gb)]) (by kernel_rfl) (cells_sub (hS_.heapAt 0 rfl) rfl)) hs21 ?_
 refine any_step 6 (by kernel_rfl) (by kernel_rfl) ?_
 refine zC00 hs21 (rwords_spec (gw := gw) (gi := gi) (gb := gb) B _) fun w22 hs24 => ?_
 refine ops_done (by kernel_rfl) ⟨hs24, ?_⟩
 refine zA (.bool (decide ((img.length : Int) < (wordsOf gw gi gb)))) 7 hs24 ?_
 refine any_done (by kernel_rfl) ?_
 refine hK20 _ _ ?_
 refine W.cond (decide ((img.length : Int) < (wordsOf gw gi gb))) (by kernel_rfl) (fun h25 => ?_) (fun h25 => ?_)
 ·
  have h25p := of_decide_eq_true h25
  refine W.sr fun K26 hK26 => ?_
  refine zE 1 (hK26 _ _ ?_)
  refine W.ret (ret_seq ?_)
  have hs27 := St.tk0 hs24
  refine ret_of (zi 8) (by kernel_rfl) ⟨_, ⟨congrArg (Value.int .i64) (by rcases place8_cases gw gi gb n_ with ⟨q1, q2⟩ | ⟨q1, q2, q3⟩ <;> (try have q1_ := may_out q1) <;> first | contradiction | (exfalso; omega) | (exfalso; exact q2 ⟨by assumption, by omega, by omega⟩) | (simp only [ifind]; rw [if_pos (by omega)]) | (simp only [ifind]; rw [if_neg (by omega), if_pos (by omega)]) | (simp only [ifind]; rw [if_neg (by omega), if_neg (by omega)])), rfl⟩, hs27⟩
 have h25p := of_decide_eq_false h25
 refine W.skip ?_
 refine hK19 _ _ ?_
 refine W.sr fun K28 hK28 => ?_
 refine zE 1 (hK28 _ _ ?_)
 refine W.ret ?_
 have hs29 := St.tk0 hs24
 refine ret_of (zi 0) (by kernel_rfl) ⟨_, ⟨congrArg (Value.int .i64) (by rcases place8_cases gw gi gb n_ with ⟨q1, q2⟩ | ⟨q1, q2, q3⟩ <;> (try have q1_ := may_out q1) <;> first | contradiction | (exfalso; omega) | (exfalso; exact q2 ⟨by assumption, by omega, by omega⟩) | (simp only [ifind]; rw [if_pos (by omega)]) | (simp only [ifind]; rw [if_neg (by omega), if_pos (by omega)]) | (simp only [ifind]; rw [if_neg (by omega), if_neg (by omega)])), rfl⟩, hs29⟩
end Go.Proofs.YtmmclabkkigiaaaGreat
