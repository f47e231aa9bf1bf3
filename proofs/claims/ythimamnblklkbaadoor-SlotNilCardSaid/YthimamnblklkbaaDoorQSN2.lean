/- Texts, one behind the other: F6a, F6b, Pl, F0a, F6c, F0b, A0t, A0d, Ps, F0c, A0e. -/
import Derived.Test.YthimamnblklkbaaDoorQSN1
set_option linter.unusedVariables false
set_option linter.unusedSimpArgs false
set_option maxRecDepth 20000
namespace Go.Proofs.YthimamnblklkbaaDoor
open Go Go.RowKit
set_option linter.unusedSimpArgs false
set_option linter.unusedVariables false

theorem within_spec {n_ f_ t_ : Int} (B : Nat) (w : World) : Spec Tryd.prog 151 #[(.int .i64 n_), (.int .i64 f_), (.int .i64 t_)] B w [] (fun v H' => v = .bool (decide (f_ ≤ n_ ∧ n_ ≤ t_)) ∧ H' = []) := by
 refine spec_Q Tryd.func151 rfl fun hs => ?_
 refine W.sr fun K1 hK1 => ?_
 refine zE 1 (hK1 _ _ ?_)
 refine W.sr fun K2 hK2 => ?_
 refine zR 4 ?_
 rcases Bool.eq_false_or_eq_true (decide (n_ ≥ f_)) with h3 | h3
 ·
  have h3p := of_decide_eq_true h3
  refine zS 10 h3 ?_
  refine zS 9 h3 ?_
  refine zE 5 (hK2 _ _ ?_)
  refine W.ret ?_
  refine ret_of (.bool (decide (n_ ≤ t_))) (by kernel_rfl) ⟨_, ⟨congrArg Value.bool (decide_eq_decide.2 (by omega)), rfl⟩, hs⟩
 ·
  have h3p := of_decide_eq_false h3
  refine zS 10 h3 ?_
  refine zS 9 h3 ?_
  refine zE 5 (hK2 _ _ ?_)
  refine W.ret ?_
  refine ret_of (.bool false) (by kernel_rfl) ⟨_, ⟨congrArg Value.bool (decide_eq_false (by omega)).symm, rfl⟩, hs⟩

theorem may_spec {gw gi gb : Int} (B : Nat) (w : World) : Spec Tryd.prog 121 #[(.agg #[(.int .i64 gw), (.int .i64 gi), (.int .i64 gb)])] B w [] (fun v H' => v = .bool (decide (May gw gi gb)) ∧ H' = []) := by
 refine spec_Q Tryd.func121 rfl fun hs => ?_
 refine W.sr fun K1 hK1 => ?_
 refine zN [(.int .i64 gw), (.int .i64 gi), (.int .i64 gb)] 63 hs fun b4 w2 hs3 => ?_
 refine zE 1 (hK1 _ _ ?_)
 refine W.sr fun K5 hK5 => ?_
 refine zR 1 ?_
 refine zL ⟨b4, 0, none⟩ (.int .i64 gw) (hs3.cellAt 0 rfl rfl) ?_
 refine zC00 hs3 (within_spec (n_ := gw) (f_ := 1) (t_ := 4) B _) fun w6 hs8 => ?_
 refine zR 1 ?_
 rcases Bool.eq_false_or_eq_true (decide (1 ≤ gw ∧ gw ≤ 4)) with h9 | h9
 ·
  have h9p := of_decide_eq_true h9
  refine zS 6 h9 ?_
  refine zS 5 h9 ?_
  refine zR 1 ?_
  refine zL ⟨b4, 1, none⟩ (.int .i64 gi) (hs8.cellAt 0 rfl rfl) ?_
  refine zC00 hs8 (within_spec (n_ := gi) (f_ := 2) (t_ := 64) B _) fun w10 hs12 => ?_
  refine zR 2 ?_
  rcases Bool.eq_false_or_eq_true (decide (2 ≤ gi ∧ gi ≤ 64)) with h13 | h13
  ·
   have h13p := of_decide_eq_true h13
   refine zS 11 h13 ?_
   refine zS 9 h13 ?_
   refine zS 10 h13 ?_
   refine zR 1 ?_
   refine zL ⟨b4, 2, none⟩ (.int .i64 gb) (hs12.cellAt 0 rfl rfl) ?_
   refine zC00 hs12 (within_spec (n_ := gb) (f_ := 2) (t_ := 512) B _) fun w14 hs16 => ?_
   refine zE 2 (hK5 _ _ ?_)
   refine W.ret ?_
   have hs17 := St.tk0 hs16
   refine ret_of (.bool (decide (2 ≤ gb ∧ gb ≤ 512))) (by kernel_rfl) ⟨_, ⟨congrArg Value.bool (decide_eq_decide.2 (by unfold May; omega)), rfl⟩, hs17⟩
  ·
   have h13p := of_decide_eq_false h13
   refine zS 11 h13 ?_
   refine zS 9 h13 ?_
   refine zS 10 h13 ?_
   refine zE 5 (hK5 _ _ ?_)
   refine W.ret ?_
   have hs18 := St.tk0 hs12
   refine ret_of (.bool false) (by kernel_rfl) ⟨_, ⟨congrArg Value.bool (decide_eq_false (by unfold May; omega)).symm, rfl⟩, hs18⟩
 ·
  have h9p := of_decide_eq_false h9
  refine zS 6 h9 ?_
  refine zS 5 h9 ?_
  refine zE 10 (hK5 _ _ ?_)
  refine W.ret ?_
  have hs19 := St.tk0 hs8
  refine ret_of (.bool false) (by kernel_rfl) ⟨_, ⟨congrArg Value.bool (decide_eq_false (by unfold May; omega)).symm, rfl⟩, hs19⟩

theorem rmay_spec {gw gi gb : Int} (B : Nat) (w : World) : Spec Tryd.prog 115 #[(.agg #[(.int .i64 gw), (.int .i64 gi), (.int .i64 gb)])] B w [] (fun v H' => v = .bool (decide (May gw gi gb)) ∧ H' = []) := by
 refine spec_Q Tryd.func115 rfl fun hs => ?_
 refine W.sr fun K1 hK1 => ?_
 refine zN [(.int .i64 gw), (.int .i64 gi), (.int .i64 gb)] 88 hs fun b4 w2 hs3 => ?_
 refine zE 1 (hK1 _ _ ?_)
 refine W.sr fun K5 hK5 => ?_
 refine zR 1 ?_
 refine zL ⟨b4, 0, none⟩ (.int .i64 gw) (hs3.cellAt 0 rfl rfl) ?_
 refine zR 2 ?_
 rcases Bool.eq_false_or_eq_true (decide (gw ≥ 1)) with h6 | h6
 ·
  have h6p := of_decide_eq_true h6
  refine zS 6 h6 ?_
  refine zS 5 h6 ?_
  refine zR 1 ?_
  refine zL ⟨b4, 0, none⟩ (.int .i64 gw) (hs3.cellAt 0 rfl rfl) ?_
  refine zR 3 ?_
  rcases Bool.eq_false_or_eq_true (decide (gw ≤ 4)) with h7 | h7
  ·
   have h7p := of_decide_eq_true h7
   refine zS 11 h7 ?_
   refine zS 9 h7 ?_
   refine zS 10 h7 ?_
   refine zR 1 ?_
   refine zL ⟨b4, 1, none⟩ (.int .i64 gi) (hs3.cellAt 0 rfl rfl) ?_
   refine zR 3 ?_
   rcases Bool.eq_false_or_eq_true (decide (gi ≥ 2)) with h8 | h8
   ·
    have h8p := of_decide_eq_true h8
    refine zS 16 h8 ?_
    refine zS 14 h8 ?_
    refine zS 15 h8 ?_
    refine zR 1 ?_
    refine zL ⟨b4, 1, none⟩ (.int .i64 gi) (hs3.cellAt 0 rfl rfl) ?_
    refine zR 3 ?_
    rcases Bool.eq_false_or_eq_true (decide (gi ≤ 64)) with h9 | h9
    ·
     have h9p := of_decide_eq_true h9
     refine zS 21 h9 ?_
     refine zS 19 h9 ?_
     refine zS 20 h9 ?_
     refine zR 1 ?_
     refine zL ⟨b4, 2, none⟩ (.int .i64 gb) (hs3.cellAt 0 rfl rfl) ?_
     refine zR 3 ?_
     rcases Bool.eq_false_or_eq_true (decide (gb ≥ 2)) with h10 | h10
     ·
      have h10p := of_decide_eq_true h10
      refine zS 26 h10 ?_
      refine zS 24 h10 ?_
      refine zS 25 h10 ?_
      refine zR 1 ?_
      refine zL ⟨b4, 2, none⟩ (.int .i64 gb) (hs3.cellAt 0 rfl rfl) ?_
      refine zE 3 (hK5 _ _ ?_)
      refine W.ret ?_
      have hs11 := St.tk0 hs3
      refine ret_of (.bool (decide (gb ≤ 512))) (by kernel_rfl) ⟨_, ⟨congrArg Value.bool (decide_eq_decide.2 (by unfold May; omega)), rfl⟩, hs11⟩
     ·
      have h10p := of_decide_eq_false h10
      refine zS 26 h10 ?_
      refine zS 24 h10 ?_
      refine zS 25 h10 ?_
      refine zE 5 (hK5 _ _ ?_)
      refine W.ret ?_
      have hs12 := St.tk0 hs3
      refine ret_of (.bool false) (by kernel_rfl) ⟨_, ⟨congrArg Value.bool (decide_eq_false (by unfold May; omega)).symm, rfl⟩, hs12⟩
    ·
     have h9p := of_decide_eq_false h9
     refine zS 21 h9 ?_
     refine zS 19 h9 ?_
     refine zS 20 h9 ?_
     refine zE 10 (hK5 _ _ ?_)
     refine W.ret ?_
     have hs13 := St.tk0 hs3
     refine ret_of (.bool false) (by kernel_rfl) ⟨_, ⟨congrArg Value.bool (decide_eq_false (by unfold May; omega)).symm, rfl⟩, hs13⟩
   ·
    have h8p := of_decide_eq_false h8
    refine zS 16 h8 ?_
    refine zS 14 h8 ?_
    refine zS 15 h8 ?_
    refine zE 15 (hK5 _ _ ?_)
    refine W.ret ?_
    have hs14 := St.tk0 hs3
    refine ret_of (.bool false) (by kernel_rfl) ⟨_, ⟨congrArg Value.bool (decide_eq_false (by unfold May; omega)).symm, rfl⟩, hs14⟩
  ·
   have h7p := of_decide_eq_false h7
   refine zS 11 h7 ?_
   refine zS 9 h7 ?_
   refine zS 10 h7 ?_
   refine zE 20 (hK5 _ _ ?_)
   refine W.ret ?_
   have hs15 := St.tk0 hs3
   refine ret_of (.bool false) (by kernel_rfl) ⟨_, ⟨congrArg Value.bool (decide_eq_false (by unfold May; omega)).symm, rfl⟩, hs15⟩
 ·
  have h6p := of_decide_eq_false h6
  refine zS 6 h6 ?_
  refine zS 5 h6 ?_
  refine zE 25 (hK5 _ _ ?_)
  refine W.ret ?_
  have hs16 := St.tk0 hs3
  refine ret_of (.bool false) (by kernel_rfl) ⟨_, ⟨congrArg Value.bool (decide_eq_false (by unfold May; omega)).symm, rfl⟩, hs16⟩

end Go.Proofs.YthimamnblklkbaaDoor

set_option maxRecDepth 20000
namespace Go.Proofs.YthimamnblklkbaaDoor
open Go Go.RowKit
set_option linter.unusedSimpArgs false
set_option linter.unusedVariables false

theorem rows_spec {gw gi gb : Int} (B : Nat) (w : World) : Spec Tryd.prog 133 #[(.agg #[(.int .i64 gw), (.int .i64 gi), (.int .i64 gb)])] B w [] (fun v H' => v = (.agg #[(.int .u8 1), (.int .i64 8), (.int .i64 1), (.int .u8 2), (.int .i64 64), (.int .i64 4), (.int .u8 5), (.int .i64 208), (.int .i64 gw), (.int .u8 6), (.int .i64 8), (.int .i64 1), (.int .u8 7), (.int .i64 8), (.int .i64 1), (.int .u8 8), (.int .i64 16), (.int .i64 gi), (.int .u8 9), (.int .i64 8), (.int .i64 gb)]) ∧ H' = []) := by
 refine spec_Q Tryd.func133 rfl fun hs => ?_
 refine W.sr fun K1 hK1 => ?_
 refine zN [(.int .i64 gw), (.int .i64 gi), (.int .i64 gb)] 63 hs fun b4 w2 hs3 => ?_
 refine zN [(.int .u8 0), (.int .i64 0), (.int .i64 0), (.int .u8 0), (.int .i64 0), (.int .i64 0), (.int .u8 0), (.int .i64 0), (.int .i64 0), (.int .u8 0), (.int .i64 0), (.int .i64 0), (.int .u8 0), (.int .i64 0), (.int .i64 0), (.int .u8 0), (.int .i64 0), (.int .i64 0), (.int .u8 0), (.int .i64 0), (.int .i64 0)] 197 hs3 fun b7 w5 hs6 => ?_
 refine zD (hK1 _ _ ?_)
 refine W.sr fun K8 hK8 => ?_
 refine zR 3 ?_
 refine zL ⟨b4, 0, none⟩ (.int .i64 gw) (hs6.cellAt 1 rfl rfl) ?_
 refine zR 4 ?_
 refine zL ⟨b4, 1, none⟩ (.int .i64 gi) (hs6.cellAt 1 rfl rfl) ?_
 refine zR 2 ?_
 refine zL ⟨b4, 2, none⟩ (.int .i64 gb) (hs6.cellAt 1 rfl rfl) ?_
 refine zR 2 ?_
 refine ops_store (off := 0) (cs := [(.int .u8 0), (.int .i64 0), (.int .i64 0), (.int .u8 0), (.int .i64 0), (.int .i64 0), (.int .u8 0), (.int .i64 0), (.int .i64 0), (.int .u8 0), (.int .i64 0), (.int .i64 0), (.int .u8 0), (.int .i64 0), (.int .i64 0), (.int .u8 0), (.int .i64 0), (.int .i64 0), (.int .u8 0), (.int .i64 0), (.int .i64 0)]) (vs := [(.int .u8 1), (.int .i64 8), (.int .i64 1), (.int .u8 2), (.int .i64 64), (.int .i64 4), (.int .u8 5), (.int .i64 208), (.int .i64 gw), (.int .u8 6), (.int .i64 8), (.int .i64 1), (.int .u8 7), (.int .i64 8), (.int .i64 1), (.int .u8 8), (.int .i64 16), (.int .i64 gi), (.int .u8 9), (.int .i64 8), (.int .i64 gb)]) hs6 (by kernel_rfl) (by simp) rfl (fun w9 hs10 => ?_)
 have hs11 : St B w [] w9 [blk b7 (.cells [(.int .u8 1), (.int .i64 8), (.int .i64 1), (.int .u8 2), (.int .i64 64), (.int .i64 4), (.int .u8 5), (.int .i64 208), (.int .i64 gw), (.int .u8 6), (.int .i64 8), (.int .i64 1), (.int .u8 7), (.int .i64 8), (.int .i64 1), (.int .u8 8), (.int .i64 16), (.int .i64 gi), (.int .u8 9), (.int .i64 8), (.int .i64 gb)].toArray 197 (0, 0)), blk b4 (.cells [(.int .i64 gw), (.int .i64 gi), (.int .i64 gb)].toArray 63 (0, 0))] := hs10
 refine zD (hK8 _ _ ?_)
 refine W.ret ?_
 have hs12 := St.tk0 hs11
 refine ret_of (.agg #[(.int .u8 1), (.int .i64 8), (.int .i64 1), (.int .u8 2), (.int .i64 64), (.int .i64 4), (.int .u8 5), (.int .i64 208), (.int .i64 gw), (.int .u8 6), (.int .i64 8), (.int .i64 1), (.int .u8 7), (.int .i64 8), (.int .i64 1), (.int .u8 8), (.int .i64 16), (.int .i64 gi), (.int .u8 9), (.int .i64 8), (.int .i64 gb)]) (results_cell (ad := ⟨b7, 0, none⟩) (cs := [(.int .u8 1), (.int .i64 8), (.int .i64 1), (.int .u8 2), (.int .i64 64), (.int .i64 4), (.int .u8 5), (.int .i64 208), (.int .i64 gw), (.int .u8 6), (.int .i64 8), (.int .i64 1), (.int .u8 7), (.int .i64 8), (.int .i64 1), (.int .u8 8), (.int .i64 16), (.int .i64 gi), (.int .u8 9), (.int .i64 8), (.int .i64 gb)]) rfl (by kernel_rfl) (by kernel_rfl) (cells_sub (hs11.heapAt 0 rfl) rfl)) ⟨_, ⟨rfl, rfl⟩, hs12⟩

theorem place2_may {gw gi gb n_ : Int} (B : Nat) (w : World) (hm : May gw gi gb) : Spec Tryd.prog 134 #[(.agg #[(.int .i64 gw), (.int .i64 gi), (.int .i64 gb)]), (.int .u8 2), (.int .i64 n_)] B w [] (fun v H' => v = .int .i64 (placeOf 2 gw gi gb n_) ∧ H' = []) := by
 refine spec_Q Tryd.func134 rfl fun hs => ?_
 have hm_ : (1 ≤ gw ∧ gw ≤ 4) ∧ (2 ≤ gi ∧ gi ≤ 64) ∧ (2 ≤ gb ∧ gb ≤ 512) := hm
 refine W.sr fun K1 hK1 => ?_
 refine zN [(.int .i64 gw), (.int .i64 gi), (.int .i64 gb)] 63 hs fun b4 w2 hs3 => ?_
 refine zE 1 (hK1 _ _ ?_)
 refine W.sr fun K5 hK5 => ?_
 refine zE 1 (hK5 _ _ ?_)
 refine W.seq fun K6 hK6 => ?_
 refine W.sr fun K7 hK7 => ?_
 refine ops_R (runs_loadAgg (ad := ⟨b4, 0, none⟩) (cs := [(.int .i64 gw), (.int .i64 gi), (.int .i64 gb)]) (by kernel_rfl) (cells_sub (hs3.heapAt 0 rfl) rfl)) ?_
 refine zC00 hs3 (rows_spec (gw := gw) (gi := gi) (gb := gb) B _) fun w8 hs10 => ?_
 refine zE 1 (hK7 _ _ ?_)
 refine W.block ?_
 refine W.loop_start ?_
 refine loopAt_round ?_
 refine W.sr fun K11 hK11 => ?_
 refine zE 1 (hK11 _ _ ?_)
 refine W.seq fun K12 hK12 => ?_
 refine W.cond_true true (by kernel_rfl) rfl ?_
 refine W.skip ?_
 refine hK12 _ _ ?_
 refine W.seq fun K13 hK13 => ?_
 refine W.block ?_
 refine W.sr fun K14 hK14 => ?_
 refine zR 1 ?_
 refine zN [(.int .u8 0), (.int .i64 0), (.int .i64 0)] 196 hs10 fun b17 w15 hs16 => ?_
 refine ops_store (off := 0) (cs := [(.int .u8 0), (.int .i64 0), (.int .i64 0)]) (vs := [(.int .u8 1), (.int .i64 8), (.int .i64 1)]) hs16 (by kernel_rfl) (by simp) rfl (fun w18 hs19 => ?_)
 have hs20 : St B w [] w18 [blk b17 (.cells [(.int .u8 1), (.int .i64 8), (.int .i64 1)].toArray 196 (0, 0)), blk b4 (.cells [(.int .i64 gw), (.int .i64 gi), (.int .i64 gb)].toArray 63 (0, 0))] := hs19
 refine zD (hK14 _ _ ?_)
 refine W.seq fun K21 hK21 => ?_
 refine W.sr fun K22 hK22 => ?_
 refine zR 1 ?_
 refine zL ⟨b17, 0, none⟩ (.int .u8 1) (hs20.cellAt 0 rfl rfl) ?_
 refine zE 2 (hK22 _ _ ?_)
 refine W.cond_true true (by kernel_rfl) rfl ?_
 refine W.sr fun K23 hK23 => ?_
 refine zR 2 ?_
 refine zL ⟨b17, 1, none⟩ (.int .i64 8) (hs20.cellAt 0 rfl rfl) ?_
 refine zR 1 ?_
 refine zL ⟨b17, 2, none⟩ (.int .i64 1) (hs20.cellAt 0 rfl rfl) ?_
 refine zE 3 (hK23 _ _ ?_)
 refine W.exit (exit_seq (exit_here ?_))
 refine hK13 _ _ ?_
 refine W.region ?_
 refine zE 2 ?_
 refine loopAt_next ?_
 refine loopAt_round ?_
 refine W.sr fun K24 hK24 => ?_
 refine zE 1 (hK24 _ _ ?_)
 refine W.seq fun K25 hK25 => ?_
 refine W.cond_true true (by kernel_rfl) rfl ?_
 refine W.skip ?_
 refine hK25 _ _ ?_
 refine W.seq fun K26 hK26 => ?_
 refine W.block ?_
 refine W.sr fun K27 hK27 => ?_
 refine zR 1 ?_
 refine zN [(.int .u8 0), (.int .i64 0), (.int .i64 0)] 196 hs20 fun b30 w28 hs29 => ?_
 refine ops_store (off := 0) (cs := [(.int .u8 0), (.int .i64 0), (.int .i64 0)]) (vs := [(.int .u8 2), (.int .i64 64), (.int .i64 4)]) hs29 (by kernel_rfl) (by simp) rfl (fun w31 hs32 => ?_)
 have hs33 : St B w [] w31 [blk b30 (.cells [(.int .u8 2), (.int .i64 64), (.int .i64 4)].toArray 196 (0, 0)), blk b17 (.cells [(.int .u8 1), (.int .i64 8), (.int .i64 1)].toArray 196 (0, 0)), blk b4 (.cells [(.int .i64 gw), (.int .i64 gi), (.int .i64 gb)].toArray 63 (0, 0))] := hs32
 refine zD (hK27 _ _ ?_)
 refine W.seq fun K34 hK34 => ?_
 refine W.sr fun K35 hK35 => ?_
 refine zR 1 ?_
 refine zL ⟨b30, 0, none⟩ (.int .u8 2) (hs33.cellAt 0 rfl rfl) ?_
 refine zE 2 (hK35 _ _ ?_)
 refine W.cond_false false (by kernel_rfl) rfl ?_
 refine W.skip ?_
 refine hK34 _ _ ?_
 refine W.seq fun K36 hK36 => ?_
 refine W.sr fun K37 hK37 => ?_
 refine ops_R (runs_loadAgg (ad := ⟨b4, 0, none⟩) (cs := [(.int .i64 gw), (.int .i64 gi), (.int .i64 gb)]) (by kernel_rfl) (cells_sub (hs33.heapAt 2 rfl) rfl)) ?_
 refine zC00 hs33 (may_spec (gw := gw) (gi := gi) (gb := gb) B _) fun w38 hs40 => ?_
 refine zR 1 ?_
 rcases Bool.eq_false_or_eq_true (decide (May gw gi gb)) with h41 | h41
 ·
  have h41p := of_decide_eq_true h41
  refine zS 28 h41 ?_
  refine zS 27 h41 ?_
  refine zR 2 ?_
  refine zL ⟨b30, 2, none⟩ (.int .i64 4) (hs40.cellAt 0 rfl rfl) ?_
  refine zR 1 ?_
  refine zC00 hs40 (within_spec (n_ := n_) (f_ := 0) (t_ := 3) B _) fun w42 hs44 => ?_
  refine zE 1 (hK37 _ _ ?_)
  refine W.cond (decide (0 ≤ n_ ∧ n_ ≤ 3)) (by kernel_rfl) (fun h45 => ?_) (fun h45 => ?_)
  ·
   have h45p := of_decide_eq_true h45
   refine W.sr fun K46 hK46 => ?_
   refine zR 2 ?_
   refine zL ⟨b30, 1, none⟩ (.int .i64 64) (hs44.cellAt 0 rfl rfl) ?_
   refine zR 1 ?_
   refine zI (64 * n_) (wrap_i64 (by omega) (by omega)) ?_
   refine zI (8 + (64 * n_)) (wrap_i64 (by omega) (by omega)) ?_
   refine zE 1 (hK46 _ _ ?_)
   refine W.ret (ret_seq (ret_block (ret_seq (ret_seq (ret_block (ret_seq ?_))))))
   have hs47 := St.tk0 hs44
   refine ret_of (.int .i64 (8 + (64 * n_))) (by kernel_rfl) ⟨_, ⟨congrArg (Value.int .i64) (by first | contradiction | (simp only [placeOf, if_pos hm]; split <;> omega) | (simp only [placeOf, if_neg hm]; done) | (simp only [placeOf, if_pos hm]; omega)), rfl⟩, hs47⟩
  ·
   have h45p := of_decide_eq_false h45
   refine W.skip ?_
   refine hK36 _ _ ?_
   refine W.exit (exit_block (by decide) (exit_seq (exit_seq (exit_here ?_))))
   refine hK6 _ _ ?_
   refine W.sr fun K48 hK48 => ?_
   refine zE 1 (hK48 _ _ ?_)
   refine W.ret ?_
   have hs49 := St.tk0 hs44
   refine ret_of (.int .i64 (-1)) (by kernel_rfl) ⟨_, ⟨congrArg (Value.int .i64) (by first | contradiction | (simp only [placeOf, if_pos hm]; split <;> omega) | (simp only [placeOf, if_neg hm]; done) | (simp only [placeOf, if_pos hm]; omega)), rfl⟩, hs49⟩
 ·
  have h41p := of_decide_eq_false h41
  refine zS 28 h41 ?_
  refine zS 27 h41 ?_
  refine zE 6 (hK37 _ _ ?_)
  refine W.cond_false false (by kernel_rfl) rfl ?_
  refine W.skip ?_
  refine hK36 _ _ ?_
  refine W.exit (exit_block (by decide) (exit_seq (exit_seq (exit_here ?_))))
  refine hK6 _ _ ?_
  refine W.sr fun K50 hK50 => ?_
  refine zE 1 (hK50 _ _ ?_)
  refine W.ret ?_
  have hs51 := St.tk0 hs40
  refine ret_of (.int .i64 (-1)) (by kernel_rfl) ⟨_, ⟨congrArg (Value.int .i64) (by first | contradiction | (simp only [placeOf, if_pos hm]; split <;> omega) | (simp only [placeOf, if_neg hm]; done) | (simp only [placeOf, if_pos hm]; omega)), rfl⟩, hs51⟩

theorem place2_not {gw gi gb n_ : Int} (B : Nat) (w : World) (hm : ¬ May gw gi gb) : Spec Tryd.prog 134 #[(.agg #[(.int .i64 gw), (.int .i64 gi), (.int .i64 gb)]), (.int .u8 2), (.int .i64 n_)] B w [] (fun v H' => v = .int .i64 (placeOf 2 gw gi gb n_) ∧ H' = []) := by
 refine spec_Q Tryd.func134 rfl fun hs => ?_
 refine W.sr fun K1 hK1 => ?_
 refine zN [(.int .i64 gw), (.int .i64 gi), (.int .i64 gb)] 63 hs fun b4 w2 hs3 => ?_
 refine zE 1 (hK1 _ _ ?_)
 refine W.sr fun K5 hK5 => ?_
 refine zE 1 (hK5 _ _ ?_)
 refine W.seq fun K6 hK6 => ?_
 refine W.sr fun K7 hK7 => ?_
 refine ops_R (runs_loadAgg (ad := ⟨b4, 0, none⟩) (cs := [(.int .i64 gw), (.int .i64 gi), (.int .i64 gb)]) (by kernel_rfl) (cells_sub (hs3.heapAt 0 rfl) rfl)) ?_
 refine zC00 hs3 (rows_spec (gw := gw) (gi := gi) (gb := gb) B _) fun w8 hs10 => ?_
 refine zE 1 (hK7 _ _ ?_)
 refine W.block ?_
 refine W.loop_start ?_
 refine loopAt_round ?_
 refine W.sr fun K11 hK11 => ?_
 refine zE 1 (hK11 _ _ ?_)
 refine W.seq fun K12 hK12 => ?_
 refine W.cond_true true (by kernel_rfl) rfl ?_
 refine W.skip ?_
 refine hK12 _ _ ?_
 refine W.seq fun K13 hK13 => ?_
 refine W.block ?_
 refine W.sr fun K14 hK14 => ?_
 refine zR 1 ?_
 refine zN [(.int .u8 0), (.int .i64 0), (.int .i64 0)] 196 hs10 fun b17 w15 hs16 => ?_
 refine ops_store (off := 0) (cs := [(.int .u8 0), (.int .i64 0), (.int .i64 0)]) (vs := [(.int .u8 1), (.int .i64 8), (.int .i64 1)]) hs16 (by kernel_rfl) (by simp) rfl (fun w18 hs19 => ?_)
 have hs20 : St B w [] w18 [blk b17 (.cells [(.int .u8 1), (.int .i64 8), (.int .i64 1)].toArray 196 (0, 0)), blk b4 (.cells [(.int .i64 gw), (.int .i64 gi), (.int .i64 gb)].toArray 63 (0, 0))] := hs19
 refine zD (hK14 _ _ ?_)
 refine W.seq fun K21 hK21 => ?_
 refine W.sr fun K22 hK22 => ?_
 refine zR 1 ?_
 refine zL ⟨b17, 0, none⟩ (.int .u8 1) (hs20.cellAt 0 rfl rfl) ?_
 refine zE 2 (hK22 _ _ ?_)
 refine W.cond_true true (by kernel_rfl) rfl ?_
 refine W.sr fun K23 hK23 => ?_
 refine zR 2 ?_
 refine zL ⟨b17, 1, none⟩ (.int .i64 8) (hs20.cellAt 0 rfl rfl) ?_
 refine zR 1 ?_
 refine zL ⟨b17, 2, none⟩ (.int .i64 1) (hs20.cellAt 0 rfl rfl) ?_
 refine zE 3 (hK23 _ _ ?_)
 refine W.exit (exit_seq (exit_here ?_))
 refine hK13 _ _ ?_
 refine W.region ?_
 refine zE 2 ?_
 refine loopAt_next ?_
 refine loopAt_round ?_
 refine W.sr fun K24 hK24 => ?_
 refine zE 1 (hK24 _ _ ?_)
 refine W.seq fun K25 hK25 => ?_
 refine W.cond_true true (by kernel_rfl) rfl ?_
 refine W.skip ?_
 refine hK25 _ _ ?_
 refine W.seq fun K26 hK26 => ?_
 refine W.block ?_
 refine W.sr fun K27 hK27 => ?_
 refine zR 1 ?_
 refine zN [(.int .u8 0), (.int .i64 0), (.int .i64 0)] 196 hs20 fun b30 w28 hs29 => ?_
 refine ops_store (off := 0) (cs := [(.int .u8 0), (.int .i64 0), (.int .i64 0)]) (vs := [(.int .u8 2), (.int .i64 64), (.int .i64 4)]) hs29 (by kernel_rfl) (by simp) rfl (fun w31 hs32 => ?_)
 have hs33 : St B w [] w31 [blk b30 (.cells [(.int .u8 2), (.int .i64 64), (.int .i64 4)].toArray 196 (0, 0)), blk b17 (.cells [(.int .u8 1), (.int .i64 8), (.int .i64 1)].toArray 196 (0, 0)), blk b4 (.cells [(.int .i64 gw), (.int .i64 gi), (.int .i64 gb)].toArray 63 (0, 0))] := hs32
 refine zD (hK27 _ _ ?_)
 refine W.seq fun K34 hK34 => ?_
 refine W.sr fun K35 hK35 => ?_
 refine zR 1 ?_
 refine zL ⟨b30, 0, none⟩ (.int .u8 2) (hs33.cellAt 0 rfl rfl) ?_
 refine zE 2 (hK35 _ _ ?_)
 refine W.cond_false false (by kernel_rfl) rfl ?_
 refine W.skip ?_
 refine hK34 _ _ ?_
 refine W.seq fun K36 hK36 => ?_
 refine W.sr fun K37 hK37 => ?_
 refine ops_R (runs_loadAgg (ad := ⟨b4, 0, none⟩) (cs := [(.int .i64 gw), (.int .i64 gi), (.int .i64 gb)]) (by kernel_rfl) (cells_sub (hs33.heapAt 2 rfl) rfl)) ?_
 refine zC00 hs33 (may_spec (gw := gw) (gi := gi) (gb := gb) B _) fun w38 hs40 => ?_
 refine zR 1 ?_
 rcases Bool.eq_false_or_eq_true (decide (May gw gi gb)) with h41 | h41
 ·
  have h41p := of_decide_eq_true h41
  refine zS 28 h41 ?_
  refine zS 27 h41 ?_
  refine zR 2 ?_
  refine zL ⟨b30, 2, none⟩ (.int .i64 4) (hs40.cellAt 0 rfl rfl) ?_
  refine zR 1 ?_
  refine zC00 hs40 (within_spec (n_ := n_) (f_ := 0) (t_ := 3) B _) fun w42 hs44 => ?_
  refine zE 1 (hK37 _ _ ?_)
  refine W.cond (decide (0 ≤ n_ ∧ n_ ≤ 3)) (by kernel_rfl) (fun h45 => ?_) (fun h45 => ?_)
  ·
   have h45p := of_decide_eq_true h45
   refine W.sr fun K46 hK46 => ?_
   refine zR 2 ?_
   refine zL ⟨b30, 1, none⟩ (.int .i64 64) (hs44.cellAt 0 rfl rfl) ?_
   refine zR 1 ?_
   refine ops_val (v := .int .i64 (IntKind.i64.wrap (64 * n_))) (v' := .int .i64 (IntKind.i64.wrap (64 * n_))) (by kernel_rfl) rfl ?_
   refine ops_val (v := .int .i64 (IntKind.i64.wrap (8 + (IntKind.i64.wrap (64 * n_))))) (v' := .int .i64 (IntKind.i64.wrap (8 + (IntKind.i64.wrap (64 * n_))))) (by kernel_rfl) rfl ?_
   refine zE 1 (hK46 _ _ ?_)
   refine W.ret (ret_seq (ret_block (ret_seq (ret_seq (ret_block (ret_seq ?_))))))
   have hs47 := St.tk0 hs44
   refine ret_of (.int .i64 (IntKind.i64.wrap (8 + (IntKind.i64.wrap (64 * n_))))) (by kernel_rfl) ⟨_, ⟨congrArg (Value.int .i64) (by first | contradiction | (simp only [placeOf, if_pos hm]; split <;> omega) | (simp only [placeOf, if_neg hm]; done) | (simp only [placeOf, if_pos hm]; omega)), rfl⟩, hs47⟩
  ·
   have h45p := of_decide_eq_false h45
   refine W.skip ?_
   refine hK36 _ _ ?_
   refine W.exit (exit_block (by decide) (exit_seq (exit_seq (exit_here ?_))))
   refine hK6 _ _ ?_
   refine W.sr fun K48 hK48 => ?_
   refine zE 1 (hK48 _ _ ?_)
   refine W.ret ?_
   have hs49 := St.tk0 hs44
   refine ret_of (.int .i64 (-1)) (by kernel_rfl) ⟨_, ⟨congrArg (Value.int .i64) (by first | contradiction | (simp only [placeOf, if_pos hm]; split <;> omega) | (simp only [placeOf, if_neg hm]; done) | (simp only [placeOf, if_pos hm]; omega)), rfl⟩, hs49⟩
 ·
  have h41p := of_decide_eq_false h41
  refine zS 28 h41 ?_
  refine zS 27 h41 ?_
  refine zE 6 (hK37 _ _ ?_)
  refine W.cond_false false (by kernel_rfl) rfl ?_
  refine W.skip ?_
  refine hK36 _ _ ?_
  refine W.exit (exit_block (by decide) (exit_seq (exit_seq (exit_here ?_))))
  refine hK6 _ _ ?_
  refine W.sr fun K50 hK50 => ?_
  refine zE 1 (hK50 _ _ ?_)
  refine W.ret ?_
  have hs51 := St.tk0 hs40
  refine ret_of (.int .i64 (-1)) (by kernel_rfl) ⟨_, ⟨congrArg (Value.int .i64) (by first | contradiction | (simp only [placeOf, if_pos hm]; split <;> omega) | (simp only [placeOf, if_neg hm]; done) | (simp only [placeOf, if_pos hm]; omega)), rfl⟩, hs51⟩

theorem place2_spec {gw gi gb n_ : Int} (B : Nat) (w : World) : Spec Tryd.prog 134 #[(.agg #[(.int .i64 gw), (.int .i64 gi), (.int .i64 gb)]), (.int .u8 2), (.int .i64 n_)] B w [] (fun v H' => v = .int .i64 (placeOf 2 gw gi gb n_) ∧ H' = []) := by
 by_cases hm : May gw gi gb
 · exact place2_may B w hm
 · exact place2_not B w hm

theorem areas_spec  (B : Nat) (w : World) : Spec Tryd.prog 150 #[] B w [] (fun v H' => v = .int .i64 264 ∧ H' = []) := by
 refine spec_Q Tryd.func150 rfl fun hs => ?_
 refine W.sr fun K1 hK1 => ?_
 refine zE 1 (hK1 _ _ ?_)
 refine W.sr fun K2 hK2 => ?_
 refine zE 1 (hK2 _ _ ?_)
 refine W.ret ?_
 refine ret_of (.int .i64 264) (by kernel_rfl) ⟨_, ⟨rfl, rfl⟩, hs⟩

theorem maps_spec {gw gi gb : Int} (B : Nat) (w : World) (hm : May gw gi gb) : Spec Tryd.prog 149 #[(.agg #[(.int .i64 gw), (.int .i64 gi), (.int .i64 gb)])] B w [] (fun v H' => v = .int .i64 (264 + 208 * gw) ∧ H' = []) := by
 refine spec_Q Tryd.func149 rfl fun hs => ?_
 have hm_ : (1 ≤ gw ∧ gw ≤ 4) ∧ (2 ≤ gi ∧ gi ≤ 64) ∧ (2 ≤ gb ∧ gb ≤ 512) := hm
 refine W.sr fun K1 hK1 => ?_
 refine zN [(.int .i64 gw), (.int .i64 gi), (.int .i64 gb)] 88 hs fun b4 w2 hs3 => ?_
 refine zE 1 (hK1 _ _ ?_)
 refine W.seq fun K5 hK5 => ?_
 have hs6 := hs3.drew
 refine W.regionD [(0, 0), (0, 0), (2, 2), (4, 4), (9, 9), (31, 16)] (fun w_ => St B w [] w_ [blk b4 (.cells [(.int .i64 gw), (.int .i64 gi), (.int .i64 gb)].toArray 88 (0, 0))]) (by kernel_rfl) hs6 ?_
 refine any_val (v := (.pointer (some ⟨b4, 0, none⟩))) (v' := (.pointer (some ⟨b4, 0, none⟩))) 1 (by kernel_rfl) (fun _ => by kernel_rfl) rfl hs6 ?_
 refine any_R 2 (by kernel_rfl) (fun _ hS_ => runs_load (ad := ⟨b4, 0, none⟩) (v := (.int .i64 gw)) (by kernel_rfl) (hS_.cellAt 0 rfl rfl)) hs6 ?_
 refine any_val (v := .int .i64 (IntKind.i64.wrap (208 * gw))) (v' := .int .i64 (208 * gw)) 3 (by kernel_rfl) (fun _ => by kernel_rfl) (congrArg (Value.int .i64) (wrap_i64 (by omega) (by omega))) hs6 ?_
 refine any_step 0 (by kernel_rfl) (by kernel_rfl) ?_
 refine zC00 hs6 (areas_spec B _) fun w7 hs9 => ?_
 refine ops_done (by kernel_rfl) ⟨hs9, ?_⟩
 refine any_val (v := .int .i64 (IntKind.i64.wrap (264 + (208 * gw)))) (v' := .int .i64 (264 + (208 * gw))) 4 (by kernel_rfl) (fun _ => by kernel_rfl) (congrArg (Value.int .i64) (wrap_i64 (by omega) (by omega))) hs9 ?_
 refine any_val (v := (.int .i64 (264 + (208 * gw)))) (v' := (.int .i64 (264 + (208 * gw)))) 5 (by kernel_rfl) (fun _ => by kernel_rfl) rfl hs9 ?_
 refine any_done (by kernel_rfl) ?_
 refine hK5 _ _ ?_
 refine W.ret ?_
 have hs10 := St.tk0 hs9
 refine ret_of (.int .i64 (264 + (208 * gw))) (by kernel_rfl) ⟨_, ⟨rfl, rfl⟩, hs10⟩

theorem rwords_spec {gw gi gb : Int} (B : Nat) (w : World) : Spec Tryd.prog 116 #[(.agg #[(.int .i64 gw), (.int .i64 gi), (.int .i64 gb)])] B w [] (fun v H' => v = .int .i64 (wordsOf gw gi gb) ∧ H' = []) := by
 refine spec_Q Tryd.func116 rfl fun hs => ?_
 refine W.sr fun K1 hK1 => ?_
 refine zN [(.int .i64 gw), (.int .i64 gi), (.int .i64 gb)] 88 hs fun b4 w2 hs3 => ?_
 refine zE 1 (hK1 _ _ ?_)
 refine W.seq fun K5 hK5 => ?_
 refine W.sr fun K6 hK6 => ?_
 refine ops_R (runs_loadAgg (ad := ⟨b4, 0, none⟩) (cs := [(.int .i64 gw), (.int .i64 gi), (.int .i64 gb)]) (by kernel_rfl) (cells_sub (hs3.heapAt 0 rfl) rfl)) ?_
 refine zC00 hs3 (rmay_spec (gw := gw) (gi := gi) (gb := gb) B _) fun w7 hs9 => ?_
 refine zE 1 (hK6 _ _ ?_)
 refine W.cond (!(decide (May gw gi gb))) (by kernel_rfl) (fun h10 => ?_) (fun h10 => ?_)
 ·
  have h10p : ¬ (May gw gi gb) := of_decide_eq_false (bnot_true h10)
  have hm : ¬ May gw gi gb := h10p
  refine W.sr fun K11 hK11 => ?_
  refine zE 1 (hK11 _ _ ?_)
  refine W.ret (ret_seq ?_)
  have hs12 := St.tk0 hs9
  refine ret_of (.int .i64 0) (by kernel_rfl) ⟨_, ⟨congrArg (Value.int .i64) (by first | contradiction | (simp only [wordsOf, if_pos hm]; omega) | (simp only [wordsOf, if_neg hm]; done)), rfl⟩, hs12⟩
 ·
  have h10p : May gw gi gb := of_decide_eq_true (bnot_false h10)
  have hm : May gw gi gb := h10p
  have hm_ : (1 ≤ gw ∧ gw ≤ 4) ∧ (2 ≤ gi ∧ gi ≤ 64) ∧ (2 ≤ gb ∧ gb ≤ 512) := hm
  refine W.skip ?_
  refine hK5 _ _ ?_
  refine W.seq fun K13 hK13 => ?_
  have hs14 := hs9.drew
  refine W.regionD [(0, 0), (1, 1), (2, 2), (0, 0), (8, 8), (16, 16), (36, 36), (0, 0), (128, 128), (256, 256), (576, 576), (2047, 1024)] (fun w_ => St B w [] w_ [blk b4 (.cells [(.int .i64 gw), (.int .i64 gi), (.int .i64 gb)].toArray 88 (0, 0))]) (by kernel_rfl) hs14 ?_
  refine any_R 0 (by kernel_rfl) (fun _ hS_ => runs_loadAgg (ad := ⟨b4, 0, none⟩) (cs := [(.int .i64 gw), (.int .i64 gi), (.int .i64 gb)]) (by kernel_rfl) (cells_sub (hS_.heapAt 0 rfl) rfl)) hs14 ?_
  refine any_val (v := (.pointer (some ⟨b4, 1, none⟩))) (v' := (.pointer (some ⟨b4, 1, none⟩))) 3 (by kernel_rfl) (fun _ => by kernel_rfl) rfl hs14 ?_
  refine any_R 4 (by kernel_rfl) (fun _ hS_ => runs_load (ad := ⟨b4, 1, none⟩) (v := (.int .i64 gi)) (by kernel_rfl) (hS_.cellAt 0 rfl rfl)) hs14 ?_
  refine any_val (v := .int .i64 (IntKind.i64.wrap (16 * gi))) (v' := .int .i64 (16 * gi)) 5 (by kernel_rfl) (fun _ => by kernel_rfl) (congrArg (Value.int .i64) (wrap_i64 (by omega) (by omega))) hs14 ?_
  refine any_val (v := (.pointer (some ⟨b4, 2, none⟩))) (v' := (.pointer (some ⟨b4, 2, none⟩))) 7 (by kernel_rfl) (fun _ => by kernel_rfl) rfl hs14 ?_
  refine any_R 8 (by kernel_rfl) (fun _ hS_ => runs_load (ad := ⟨b4, 2, none⟩) (v := (.int .i64 gb)) (by kernel_rfl) (hS_.cellAt 0 rfl rfl)) hs14 ?_
  refine any_val (v := .int .i64 (IntKind.i64.wrap (8 * gb))) (v' := .int .i64 (8 * gb)) 9 (by kernel_rfl) (fun _ => by kernel_rfl) (congrArg (Value.int .i64) (wrap_i64 (by omega) (by omega))) hs14 ?_
  refine any_step 1 (by kernel_rfl) (by kernel_rfl) ?_
  refine zC00 hs14 (maps_spec (hm := hm) (gw := gw) (gi := gi) (gb := gb) B _) fun w15 hs17 => ?_
  refine ops_done (by kernel_rfl) ⟨hs17, ?_⟩
  refine any_val (v := .int .i64 (IntKind.i64.wrap ((264 + 208 * gw) + 16))) (v' := .int .i64 ((264 + 208 * gw) + 16)) 2 (by kernel_rfl) (fun _ => by kernel_rfl) (congrArg (Value.int .i64) (wrap_i64 (by omega) (by omega))) hs17 ?_
  refine any_val (v := .int .i64 (IntKind.i64.wrap (((264 + 208 * gw) + 16) + (16 * gi)))) (v' := .int .i64 (((264 + 208 * gw) + 16) + (16 * gi))) 6 (by kernel_rfl) (fun _ => by kernel_rfl) (congrArg (Value.int .i64) (wrap_i64 (by omega) (by omega))) hs17 ?_
  refine any_val (v := .int .i64 (IntKind.i64.wrap ((((264 + 208 * gw) + 16) + (16 * gi)) + (8 * gb)))) (v' := .int .i64 ((((264 + 208 * gw) + 16) + (16 * gi)) + (8 * gb))) 10 (by kernel_rfl) (fun _ => by kernel_rfl) (congrArg (Value.int .i64) (wrap_i64 (by omega) (by omega))) hs17 ?_
  refine any_val (v := (.int .i64 ((((264 + 208 * gw) + 16) + (16 * gi)) + (8 * gb)))) (v' := (.int .i64 ((((264 + 208 * gw) + 16) + (16 * gi)) + (8 * gb)))) 11 (by kernel_rfl) (fun _ => by kernel_rfl) rfl hs17 ?_
  refine any_done (by kernel_rfl) ?_
  refine hK13 _ _ ?_
  refine W.ret ?_
  have hs18 := St.tk0 hs17
  refine ret_of (.int .i64 ((((264 + 208 * gw) + 16) + (16 * gi)) + (8 * gb))) (by kernel_rfl) ⟨_, ⟨congrArg (Value.int .i64) (by first | contradiction | (simp only [wordsOf, if_pos hm]; omega) | (simp only [wordsOf, if_neg hm]; done)), rfl⟩, hs18⟩

theorem rmapat_spec {gw gi gb : Int} (B : Nat) (w : World) : Spec Tryd.prog 118 #[(.agg #[(.int .i64 gw), (.int .i64 gi), (.int .i64 gb)])] B w [] (fun v H' => v = .int .i64 (placeOf 6 gw gi gb 0) ∧ H' = []) := by
 refine spec_Q Tryd.func118 rfl fun hs => ?_
 refine W.sr fun K1 hK1 => ?_
 refine zN [(.int .i64 gw), (.int .i64 gi), (.int .i64 gb)] 88 hs fun b4 w2 hs3 => ?_
 refine zE 1 (hK1 _ _ ?_)
 refine W.seq fun K5 hK5 => ?_
 refine W.sr fun K6 hK6 => ?_
 refine ops_R (runs_loadAgg (ad := ⟨b4, 0, none⟩) (cs := [(.int .i64 gw), (.int .i64 gi), (.int .i64 gb)]) (by kernel_rfl) (cells_sub (hs3.heapAt 0 rfl) rfl)) ?_
 refine zC00 hs3 (rmay_spec (gw := gw) (gi := gi) (gb := gb) B _) fun w7 hs9 => ?_
 refine zE 1 (hK6 _ _ ?_)
 refine W.cond (!(decide (May gw gi gb))) (by kernel_rfl) (fun h10 => ?_) (fun h10 => ?_)
 ·
  have h10p : ¬ (May gw gi gb) := of_decide_eq_false (bnot_true h10)
  have hm : ¬ May gw gi gb := h10p
  refine W.sr fun K11 hK11 => ?_
  refine zE 1 (hK11 _ _ ?_)
  refine W.ret (ret_seq ?_)
  have hs12 := St.tk0 hs9
  refine ret_of (.int .i64 (-1)) (by kernel_rfl) ⟨_, ⟨congrArg (Value.int .i64) (by first | contradiction | (simp only [placeOf, if_pos hm]; split <;> omega) | (simp only [placeOf, if_neg hm]; done) | (simp only [placeOf, if_pos hm]; omega)), rfl⟩, hs12⟩
 ·
  have h10p : May gw gi gb := of_decide_eq_true (bnot_false h10)
  have hm : May gw gi gb := h10p
  have hm_ : (1 ≤ gw ∧ gw ≤ 4) ∧ (2 ≤ gi ∧ gi ≤ 64) ∧ (2 ≤ gb ∧ gb ≤ 512) := hm
  refine W.skip ?_
  refine hK5 _ _ ?_
  refine W.sr fun K13 hK13 => ?_
  refine ops_R (runs_loadAgg (ad := ⟨b4, 0, none⟩) (cs := [(.int .i64 gw), (.int .i64 gi), (.int .i64 gb)]) (by kernel_rfl) (cells_sub (hs9.heapAt 0 rfl) rfl)) ?_
  refine zC00 hs9 (maps_spec (hm := hm) (gw := gw) (gi := gi) (gb := gb) B _) fun w14 hs16 => ?_
  refine zE 1 (hK13 _ _ ?_)
  refine W.ret ?_
  have hs17 := St.tk0 hs16
  refine ret_of (.int .i64 (264 + 208 * gw)) (by kernel_rfl) ⟨_, ⟨congrArg (Value.int .i64) (by first | contradiction | (simp only [placeOf, if_pos hm]; split <;> omega) | (simp only [placeOf, if_neg hm]; done) | (simp only [placeOf, if_pos hm]; omega)), rfl⟩, hs17⟩

theorem rbmapat_spec {gw gi gb : Int} (B : Nat) (w : World) : Spec Tryd.prog 128 #[(.agg #[(.int .i64 gw), (.int .i64 gi), (.int .i64 gb)])] B w [] (fun v H' => v = .int .i64 (placeOf 7 gw gi gb 0) ∧ H' = []) := by
 refine spec_Q Tryd.func128 rfl fun hs => ?_
 refine W.sr fun K1 hK1 => ?_
 refine zN [(.int .i64 gw), (.int .i64 gi), (.int .i64 gb)] 88 hs fun b4 w2 hs3 => ?_
 refine zE 1 (hK1 _ _ ?_)
 refine W.seq fun K5 hK5 => ?_
 refine W.sr fun K6 hK6 => ?_
 refine ops_R (runs_loadAgg (ad := ⟨b4, 0, none⟩) (cs := [(.int .i64 gw), (.int .i64 gi), (.int .i64 gb)]) (by kernel_rfl) (cells_sub (hs3.heapAt 0 rfl) rfl)) ?_
 refine zC00 hs3 (rmay_spec (gw := gw) (gi := gi) (gb := gb) B _) fun w7 hs9 => ?_
 refine zE 1 (hK6 _ _ ?_)
 refine W.cond (!(decide (May gw gi gb))) (by kernel_rfl) (fun h10 => ?_) (fun h10 => ?_)
 ·
  have h10p : ¬ (May gw gi gb) := of_decide_eq_false (bnot_true h10)
  have hm : ¬ May gw gi gb := h10p
  refine W.sr fun K11 hK11 => ?_
  refine zE 1 (hK11 _ _ ?_)
  refine W.ret (ret_seq ?_)
  have hs12 := St.tk0 hs9
  refine ret_of (.int .i64 (-1)) (by kernel_rfl) ⟨_, ⟨congrArg (Value.int .i64) (by first | contradiction | (simp only [placeOf, if_pos hm]; split <;> omega) | (simp only [placeOf, if_neg hm]; done) | (simp only [placeOf, if_pos hm]; omega)), rfl⟩, hs12⟩
 ·
  have h10p : May gw gi gb := of_decide_eq_true (bnot_false h10)
  have hm : May gw gi gb := h10p
  have hm_ : (1 ≤ gw ∧ gw ≤ 4) ∧ (2 ≤ gi ∧ gi ≤ 64) ∧ (2 ≤ gb ∧ gb ≤ 512) := hm
  refine W.skip ?_
  refine hK5 _ _ ?_
  refine W.sr fun K13 hK13 => ?_
  refine ops_R (runs_loadAgg (ad := ⟨b4, 0, none⟩) (cs := [(.int .i64 gw), (.int .i64 gi), (.int .i64 gb)]) (by kernel_rfl) (cells_sub (hs9.heapAt 0 rfl) rfl)) ?_
  refine zC00 hs9 (maps_spec (hm := hm) (gw := gw) (gi := gi) (gb := gb) B _) fun w14 hs16 => ?_
  refine zI ((264 + 208 * gw) + 8) (wrap_i64 (by omega) (by omega)) ?_
  refine zE 1 (hK13 _ _ ?_)
  refine W.ret ?_
  have hs17 := St.tk0 hs16
  refine ret_of (.int .i64 ((264 + 208 * gw) + 8)) (by kernel_rfl) ⟨_, ⟨congrArg (Value.int .i64) (by first | contradiction | (simp only [placeOf, if_pos hm]; split <;> omega) | (simp only [placeOf, if_neg hm]; done) | (simp only [placeOf, if_pos hm]; omega)), rfl⟩, hs17⟩

theorem rinodeat_spec {gw gi gb n_ : Int} (B : Nat) (w : World) : Spec Tryd.prog 119 #[(.agg #[(.int .i64 gw), (.int .i64 gi), (.int .i64 gb)]), (.int .i64 n_)] B w [] (fun v H' => v = .int .i64 (placeOf 8 gw gi gb n_) ∧ H' = []) := by
 refine spec_Q Tryd.func119 rfl fun hs => ?_
 refine W.sr fun K1 hK1 => ?_
 refine zN [(.int .i64 gw), (.int .i64 gi), (.int .i64 gb)] 88 hs fun b4 w2 hs3 => ?_
 refine zE 1 (hK1 _ _ ?_)
 refine W.seq fun K5 hK5 => ?_
 refine W.sr fun K6 hK6 => ?_
 refine ops_R (runs_loadAgg (ad := ⟨b4, 0, none⟩) (cs := [(.int .i64 gw), (.int .i64 gi), (.int .i64 gb)]) (by kernel_rfl) (cells_sub (hs3.heapAt 0 rfl) rfl)) ?_
 refine zC00 hs3 (rmay_spec (gw := gw) (gi := gi) (gb := gb) B _) fun w7 hs9 => ?_
 refine zR 2 ?_
 rcases Bool.eq_false_or_eq_true (!(decide (May gw gi gb))) with h10 | h10
 ·
  have h10p : ¬ (May gw gi gb) := of_decide_eq_false (bnot_true h10)
  refine zS 8 h10 ?_
  refine zS 7 h10 ?_
  refine zE 9 (hK6 _ _ ?_)
  refine W.cond_true true (by kernel_rfl) rfl ?_
  refine W.sr fun K11 hK11 => ?_
  refine zE 1 (hK11 _ _ ?_)
  refine W.ret (ret_seq ?_)
  have hs12 := St.tk0 hs9
  refine ret_of (.int .i64 (-1)) (by kernel_rfl) ⟨_, ⟨congrArg (Value.int .i64) (by by_cases hm : May gw gi gb <;> first | contradiction | (have hm_ : (1 ≤ gw ∧ gw ≤ 4) ∧ (2 ≤ gi ∧ gi ≤ 64) ∧ (2 ≤ gb ∧ gb ≤ 512) := hm; simp only [placeOf, if_pos hm]; split <;> omega) | (simp only [placeOf, if_neg hm]; done)), rfl⟩, hs12⟩
 ·
  have h10p : May gw gi gb := of_decide_eq_true (bnot_false h10)
  have hm : May gw gi gb := h10p
  have hm_ : (1 ≤ gw ∧ gw ≤ 4) ∧ (2 ≤ gi ∧ gi ≤ 64) ∧ (2 ≤ gb ∧ gb ≤ 512) := hm
  refine zS 8 h10 ?_
  refine zS 7 h10 ?_
  refine zR 4 ?_
  rcases Bool.eq_false_or_eq_true (decide (n_ < 0)) with h13 | h13
  ·
   have h13p := of_decide_eq_true h13
   refine zS 12 h13 ?_
   refine zS 10 h13 ?_
   refine zS 11 h13 ?_
   refine zE 5 (hK6 _ _ ?_)
   refine W.cond_true true (by kernel_rfl) rfl ?_
   refine W.sr fun K14 hK14 => ?_
   refine zE 1 (hK14 _ _ ?_)
   refine W.ret (ret_seq ?_)
   have hs15 := St.tk0 hs9
   refine ret_of (.int .i64 (-1)) (by kernel_rfl) ⟨_, ⟨congrArg (Value.int .i64) (by by_cases hm : May gw gi gb <;> first | contradiction | (have hm_ : (1 ≤ gw ∧ gw ≤ 4) ∧ (2 ≤ gi ∧ gi ≤ 64) ∧ (2 ≤ gb ∧ gb ≤ 512) := hm; simp only [placeOf, if_pos hm]; split <;> omega) | (simp only [placeOf, if_neg hm]; done)), rfl⟩, hs15⟩
  ·
   have h13p := of_decide_eq_false h13
   refine zS 12 h13 ?_
   refine zS 10 h13 ?_
   refine zS 11 h13 ?_
   refine zR 2 ?_
   refine zL ⟨b4, 1, none⟩ (.int .i64 gi) (hs9.cellAt 0 rfl rfl) ?_
   refine zE 2 (hK6 _ _ ?_)
   refine W.cond (decide (n_ ≥ gi)) (by kernel_rfl) (fun h16 => ?_) (fun h16 => ?_)
   ·
    have h16p := of_decide_eq_true h16
    refine W.sr fun K17 hK17 => ?_
    refine zE 1 (hK17 _ _ ?_)
    refine W.ret (ret_seq ?_)
    have hs18 := St.tk0 hs9
    refine ret_of (.int .i64 (-1)) (by kernel_rfl) ⟨_, ⟨congrArg (Value.int .i64) (by by_cases hm : May gw gi gb <;> first | contradiction | (have hm_ : (1 ≤ gw ∧ gw ≤ 4) ∧ (2 ≤ gi ∧ gi ≤ 64) ∧ (2 ≤ gb ∧ gb ≤ 512) := hm; simp only [placeOf, if_pos hm]; split <;> omega) | (simp only [placeOf, if_neg hm]; done)), rfl⟩, hs18⟩
   ·
    have h16p := of_decide_eq_false h16
    refine W.skip ?_
    refine hK5 _ _ ?_
    refine W.sr fun K19 hK19 => ?_
    refine ops_R (runs_loadAgg (ad := ⟨b4, 0, none⟩) (cs := [(.int .i64 gw), (.int .i64 gi), (.int .i64 gb)]) (by kernel_rfl) (cells_sub (hs9.heapAt 0 rfl) rfl)) ?_
    refine zC00 hs9 (maps_spec (hm := hm) (gw := gw) (gi := gi) (gb := gb) B _) fun w20 hs22 => ?_
    refine zI ((264 + 208 * gw) + 16) (wrap_i64 (by omega) (by omega)) ?_
    refine zR 1 ?_
    refine zI (16 * n_) (wrap_i64 (by omega) (by omega)) ?_
    refine zI (((264 + 208 * gw) + 16) + (16 * n_)) (wrap_i64 (by omega) (by omega)) ?_
    refine zE 1 (hK19 _ _ ?_)
    refine W.ret ?_
    have hs23 := St.tk0 hs22
    refine ret_of (.int .i64 (((264 + 208 * gw) + 16) + (16 * n_))) (by kernel_rfl) ⟨_, ⟨congrArg (Value.int .i64) (by by_cases hm : May gw gi gb <;> first | contradiction | (have hm_ : (1 ≤ gw ∧ gw ≤ 4) ∧ (2 ≤ gi ∧ gi ≤ 64) ∧ (2 ≤ gb ∧ gb ≤ 512) := hm; simp only [placeOf, if_pos hm]; split <;> omega) | (simp only [placeOf, if_neg hm]; done)), rfl⟩, hs23⟩

end Go.Proofs.YthimamnblklkbaaDoor

namespace Go.Proofs.YthimamnblklkbaaDoor
open Go Go.RowKit
def sessAt (i : Int) : Int := if 0 ≤ i ∧ i < 4 then 8 + 64 * i else -1
def slotAt (i k : Int) : Int := if (0 ≤ i ∧ i < 4) ∧ 0 ≤ k ∧ k < 4 then 16 + 64 * i + 12 * k else -1
def descAt (i k : Int) : Int := if (0 ≤ i ∧ i < 4) ∧ 0 ≤ k ∧ k < 4 then 64 + 64 * i + 2 * k else -1
theorem sess_range (i : Int) : (sessAt i = -1 ∧ ¬ (0 ≤ i ∧ i < 4)) ∨ (sessAt i = 8 + 64 * i ∧ 0 ≤ i ∧ i < 4) := by
  unfold sessAt; split <;> omega
theorem place2_eq (i : Int) : placeOf 2 1 2 2 i = sessAt i := by
  unfold placeOf sessAt
  rw [if_pos (show May 1 2 2 by unfold May; omega)]
  rfl
end Go.Proofs.YthimamnblklkbaaDoor

set_option maxRecDepth 20000
namespace Go.Proofs.YthimamnblklkbaaDoor
open Go Go.RowKit
set_option linter.unusedSimpArgs false
set_option linter.unusedVariables false

theorem sess_spec {i_ : Int} (B : Nat) (w : World) (hL : CellsAt (some ⟨1, 0, none⟩) [(.int .i64 1), (.int .i64 2), (.int .i64 2)] w) : Spec Tryd.prog 143 #[(.int .i64 i_)] B w [] (fun v H' => v = .int .i64 (sessAt i_) ∧ H' = []) := by
 refine spec_Q Tryd.func143 rfl fun hs => ?_
 refine W.sr fun K1 hK1 => ?_
 refine zE 1 (hK1 _ _ ?_)
 refine W.sr fun K2 hK2 => ?_
 refine ops_R (runs_loadAgg (ad := ⟨1, 0, none⟩) (cs := [(.int .i64 1), (.int .i64 2), (.int .i64 2)]) (by kernel_rfl) (hs.oldCells hL)) ?_
 refine zR 1 ?_
 refine zC00 hs (place2_spec (gw := 1) (gi := 2) (gb := 2) (n_ := i_) B _) fun w3 hs5 => ?_
 refine zE 1 (hK2 _ _ ?_)
 refine W.ret ?_
 refine ret_of (.int .i64 (placeOf 2 1 2 2 i_)) (by kernel_rfl) ⟨_, ⟨congrArg (Value.int .i64) (place2_eq i_), rfl⟩, hs5⟩

theorem rsess_spec {i_ : Int} (B : Nat) (w : World) : Spec Tryd.prog 54 #[(.int .i64 i_)] B w [] (fun v H' => v = .int .i64 (sessAt i_) ∧ H' = []) := by
 refine spec_Q Tryd.func54 rfl fun hs => ?_
 refine W.sr fun K1 hK1 => ?_
 refine zE 1 (hK1 _ _ ?_)
 refine W.seq fun K2 hK2 => ?_
 refine W.sr fun K3 hK3 => ?_
 refine zR 3 ?_
 rcases Bool.eq_false_or_eq_true (decide (i_ < 0)) with h4 | h4
 ·
  have h4p := of_decide_eq_true h4
  refine zS 5 h4 ?_
  refine zS 4 h4 ?_
  refine zE 3 (hK3 _ _ ?_)
  refine W.cond_true true (by kernel_rfl) rfl ?_
  refine W.sr fun K5 hK5 => ?_
  refine zE 1 (hK5 _ _ ?_)
  refine W.ret (ret_seq ?_)
  refine ret_of (.int .i64 (-1)) (by kernel_rfl) ⟨_, ⟨congrArg (Value.int .i64) (by have hse_ := sess_range i_; unfold sessAt; split <;> omega), rfl⟩, hs⟩
 ·
  have h4p := of_decide_eq_false h4
  refine zS 5 h4 ?_
  refine zS 4 h4 ?_
  refine zE 3 (hK3 _ _ ?_)
  refine W.cond (decide (i_ ≥ 4)) (by kernel_rfl) (fun h6 => ?_) (fun h6 => ?_)
  ·
   have h6p := of_decide_eq_true h6
   refine W.sr fun K7 hK7 => ?_
   refine zE 1 (hK7 _ _ ?_)
   refine W.ret (ret_seq ?_)
   refine ret_of (.int .i64 (-1)) (by kernel_rfl) ⟨_, ⟨congrArg (Value.int .i64) (by have hse_ := sess_range i_; unfold sessAt; split <;> omega), rfl⟩, hs⟩
  ·
   have h6p := of_decide_eq_false h6
   refine W.skip ?_
   refine hK2 _ _ ?_
   refine W.sr fun K8 hK8 => ?_
   refine zR 1 ?_
   have h9 : -9223372036854775808 ≤ (64 * i_) ∧ (64 * i_) ≤ 9223372036854775807 := by omega
   refine zI _ (wrap_i64 h9.1 h9.2) ?_
   have h10 : -9223372036854775808 ≤ (8 + (64 * i_)) ∧ (8 + (64 * i_)) ≤ 9223372036854775807 := by omega
   refine zI _ (wrap_i64 h10.1 h10.2) ?_
   refine zE 1 (hK8 _ _ ?_)
   refine W.ret ?_
   refine ret_of (.int .i64 (8 + (64 * i_))) (by kernel_rfl) ⟨_, ⟨congrArg (Value.int .i64) (by have hse_ := sess_range i_; unfold sessAt; split <;> omega), rfl⟩, hs⟩

theorem slotAt_part {i_ k_ : Int} (B : Nat) (w : World) (hL : CellsAt (some ⟨1, 0, none⟩) [(.int .i64 1), (.int .i64 2), (.int .i64 2)] w) : Spec Tryd.prog 147 #[(.int .i64 i_), (.int .i64 k_), (.int .i64 4), (.int .i64 8), (.int .i64 12)] B w [] (fun v H' => v = .int .i64 (slotAt i_ k_) ∧ H' = []) := by
 refine spec_Q Tryd.func147 rfl fun hs => ?_
 refine W.sr fun K1 hK1 => ?_
 refine zE 1 (hK1 _ _ ?_)
 refine W.sr fun K2 hK2 => ?_
 refine zR 1 ?_
 refine zC00 hs (sess_spec (i_ := i_) (hL := (hs.oldCells hL)) B _) fun w3 hs5 => ?_
 refine zE 1 (hK2 _ _ ?_)
 refine W.seq fun K6 hK6 => ?_
 refine W.sr fun K7 hK7 => ?_
 refine zR 3 ?_
 rcases Bool.eq_false_or_eq_true (decide ((sessAt i_) < 0)) with h8 | h8
 ·
  have h8p := of_decide_eq_true h8
  refine zS 16 h8 ?_
  refine zS 15 h8 ?_
  refine zE 6 (hK7 _ _ ?_)
  refine W.cond_true true (by kernel_rfl) rfl ?_
  refine W.sr fun K9 hK9 => ?_
  refine zE 1 (hK9 _ _ ?_)
  refine W.ret (ret_seq ?_)
  refine ret_of (.int .i64 (-1)) (by kernel_rfl) ⟨_, ⟨congrArg (Value.int .i64) (by have hse_ := sess_range i_; unfold slotAt; split <;> omega), rfl⟩, hs5⟩
 ·
  have h8p := of_decide_eq_false h8
  refine zS 16 h8 ?_
  refine zS 15 h8 ?_
  refine zR 3 ?_
  refine zC00 hs5 (within_spec (n_ := k_) (f_ := 0) (t_ := 3) B _) fun w10 hs12 => ?_
  refine zE 2 (hK7 _ _ ?_)
  refine W.cond (!(decide (0 ≤ k_ ∧ k_ ≤ 3))) (by kernel_rfl) (fun h13 => ?_) (fun h13 => ?_)
  ·
   have h13p : ¬ (0 ≤ k_ ∧ k_ ≤ 3) := of_decide_eq_false (bnot_true h13)
   refine W.sr fun K14 hK14 => ?_
   refine zE 1 (hK14 _ _ ?_)
   refine W.ret (ret_seq ?_)
   refine ret_of (.int .i64 (-1)) (by kernel_rfl) ⟨_, ⟨congrArg (Value.int .i64) (by have hse_ := sess_range i_; unfold slotAt; split <;> omega), rfl⟩, hs12⟩
  ·
   have h13p : 0 ≤ k_ ∧ k_ ≤ 3 := of_decide_eq_true (bnot_false h13)
   refine W.skip ?_
   refine hK6 _ _ ?_
   refine W.sr fun K15 hK15 => ?_
   refine zR 2 ?_
   have h16 : -9223372036854775808 ≤ ((sessAt i_) + 8) ∧ ((sessAt i_) + 8) ≤ 9223372036854775807 := by (have hse_ := sess_range i_; omega)
   refine zI _ (wrap_i64 h16.1 h16.2) ?_
   refine zR 2 ?_
   have h17 : -9223372036854775808 ≤ (12 * k_) ∧ (12 * k_) ≤ 9223372036854775807 := by (have hse_ := sess_range i_; omega)
   refine zI _ (wrap_i64 h17.1 h17.2) ?_
   have h18 : -9223372036854775808 ≤ (((sessAt i_) + 8) + (12 * k_)) ∧ (((sessAt i_) + 8) + (12 * k_)) ≤ 9223372036854775807 := by (have hse_ := sess_range i_; omega)
   refine zI _ (wrap_i64 h18.1 h18.2) ?_
   refine zE 1 (hK15 _ _ ?_)
   refine W.ret ?_
   refine ret_of (.int .i64 (((sessAt i_) + 8) + (12 * k_))) (by kernel_rfl) ⟨_, ⟨congrArg (Value.int .i64) (by have hse_ := sess_range i_; unfold slotAt; split <;> omega), rfl⟩, hs12⟩

theorem descAt_part {i_ k_ : Int} (B : Nat) (w : World) (hL : CellsAt (some ⟨1, 0, none⟩) [(.int .i64 1), (.int .i64 2), (.int .i64 2)] w) : Spec Tryd.prog 147 #[(.int .i64 i_), (.int .i64 k_), (.int .i64 4), (.int .i64 56), (.int .i64 2)] B w [] (fun v H' => v = .int .i64 (descAt i_ k_) ∧ H' = []) := by
 refine spec_Q Tryd.func147 rfl fun hs => ?_
 refine W.sr fun K1 hK1 => ?_
 refine zE 1 (hK1 _ _ ?_)
 refine W.sr fun K2 hK2 => ?_
 refine zR 1 ?_
 refine zC00 hs (sess_spec (i_ := i_) (hL := (hs.oldCells hL)) B _) fun w3 hs5 => ?_
 refine zE 1 (hK2 _ _ ?_)
 refine W.seq fun K6 hK6 => ?_
 refine W.sr fun K7 hK7 => ?_
 refine zR 3 ?_
 rcases Bool.eq_false_or_eq_true (decide ((sessAt i_) < 0)) with h8 | h8
 ·
  have h8p := of_decide_eq_true h8
  refine zS 16 h8 ?_
  refine zS 15 h8 ?_
  refine zE 6 (hK7 _ _ ?_)
  refine W.cond_true true (by kernel_rfl) rfl ?_
  refine W.sr fun K9 hK9 => ?_
  refine zE 1 (hK9 _ _ ?_)
  refine W.ret (ret_seq ?_)
  refine ret_of (.int .i64 (-1)) (by kernel_rfl) ⟨_, ⟨congrArg (Value.int .i64) (by have hse_ := sess_range i_; unfold descAt; split <;> omega), rfl⟩, hs5⟩
 ·
  have h8p := of_decide_eq_false h8
  refine zS 16 h8 ?_
  refine zS 15 h8 ?_
  refine zR 3 ?_
  refine zC00 hs5 (within_spec (n_ := k_) (f_ := 0) (t_ := 3) B _) fun w10 hs12 => ?_
  refine zE 2 (hK7 _ _ ?_)
  refine W.cond (!(decide (0 ≤ k_ ∧ k_ ≤ 3))) (by kernel_rfl) (fun h13 => ?_) (fun h13 => ?_)
  ·
   have h13p : ¬ (0 ≤ k_ ∧ k_ ≤ 3) := of_decide_eq_false (bnot_true h13)
   refine W.sr fun K14 hK14 => ?_
   refine zE 1 (hK14 _ _ ?_)
   refine W.ret (ret_seq ?_)
   refine ret_of (.int .i64 (-1)) (by kernel_rfl) ⟨_, ⟨congrArg (Value.int .i64) (by have hse_ := sess_range i_; unfold descAt; split <;> omega), rfl⟩, hs12⟩
  ·
   have h13p : 0 ≤ k_ ∧ k_ ≤ 3 := of_decide_eq_true (bnot_false h13)
   refine W.skip ?_
   refine hK6 _ _ ?_
   refine W.sr fun K15 hK15 => ?_
   refine zR 2 ?_
   have h16 : -9223372036854775808 ≤ ((sessAt i_) + 56) ∧ ((sessAt i_) + 56) ≤ 9223372036854775807 := by (have hse_ := sess_range i_; omega)
   refine zI _ (wrap_i64 h16.1 h16.2) ?_
   refine zR 2 ?_
   have h17 : -9223372036854775808 ≤ (2 * k_) ∧ (2 * k_) ≤ 9223372036854775807 := by (have hse_ := sess_range i_; omega)
   refine zI _ (wrap_i64 h17.1 h17.2) ?_
   have h18 : -9223372036854775808 ≤ (((sessAt i_) + 56) + (2 * k_)) ∧ (((sessAt i_) + 56) + (2 * k_)) ≤ 9223372036854775807 := by (have hse_ := sess_range i_; omega)
   refine zI _ (wrap_i64 h18.1 h18.2) ?_
   refine zE 1 (hK15 _ _ ?_)
   refine W.ret ?_
   refine ret_of (.int .i64 (((sessAt i_) + 56) + (2 * k_))) (by kernel_rfl) ⟨_, ⟨congrArg (Value.int .i64) (by have hse_ := sess_range i_; unfold descAt; split <;> omega), rfl⟩, hs12⟩

theorem slotat_spec {i_ k_ : Int} (B : Nat) (w : World) (hL : CellsAt (some ⟨1, 0, none⟩) [(.int .i64 1), (.int .i64 2), (.int .i64 2)] w) : Spec Tryd.prog 106 #[(.int .i64 i_), (.int .i64 k_)] B w [] (fun v H' => v = .int .i64 (slotAt i_ k_) ∧ H' = []) := by
 refine spec_Q Tryd.func106 rfl fun hs => ?_
 refine W.sr fun K1 hK1 => ?_
 refine zE 1 (hK1 _ _ ?_)
 refine W.sr fun K2 hK2 => ?_
 refine zR 2 ?_
 refine zC00 hs (slotAt_part (i_ := i_) (k_ := k_) (hL := (hs.oldCells hL)) B _) fun w3 hs5 => ?_
 refine zE 1 (hK2 _ _ ?_)
 refine W.ret ?_
 refine ret_of (.int .i64 (slotAt i_ k_)) (by kernel_rfl) ⟨_, ⟨rfl, rfl⟩, hs5⟩

theorem descat_spec {i_ k_ : Int} (B : Nat) (w : World) (hL : CellsAt (some ⟨1, 0, none⟩) [(.int .i64 1), (.int .i64 2), (.int .i64 2)] w) : Spec Tryd.prog 107 #[(.int .i64 i_), (.int .i64 k_)] B w [] (fun v H' => v = .int .i64 (descAt i_ k_) ∧ H' = []) := by
 refine spec_Q Tryd.func107 rfl fun hs => ?_
 refine W.sr fun K1 hK1 => ?_
 refine zE 1 (hK1 _ _ ?_)
 refine W.sr fun K2 hK2 => ?_
 refine zR 2 ?_
 refine zC00 hs (descAt_part (i_ := i_) (k_ := k_) (hL := (hs.oldCells hL)) B _) fun w3 hs5 => ?_
 refine zE 1 (hK2 _ _ ?_)
 refine W.ret ?_
 refine ret_of (.int .i64 (descAt i_ k_)) (by kernel_rfl) ⟨_, ⟨rfl, rfl⟩, hs5⟩

theorem rslotat_spec {i_ k_ : Int} (B : Nat) (w : World) : Spec Tryd.prog 52 #[(.int .i64 i_), (.int .i64 k_)] B w [] (fun v H' => v = .int .i64 (slotAt i_ k_) ∧ H' = []) := by
 refine spec_Q Tryd.func52 rfl fun hs => ?_
 refine W.sr fun K1 hK1 => ?_
 refine zE 1 (hK1 _ _ ?_)
 refine W.seq fun K2 hK2 => ?_
 refine W.sr fun K3 hK3 => ?_
 refine zR 1 ?_
 refine zC00 hs (rsess_spec (i_ := i_) B _) fun w4 hs6 => ?_
 refine zR 2 ?_
 rcases Bool.eq_false_or_eq_true (decide ((sessAt i_) < 0)) with h7 | h7
 ·
  have h7p := of_decide_eq_true h7
  refine zS 8 h7 ?_
  refine zS 7 h7 ?_
  refine zE 7 (hK3 _ _ ?_)
  refine W.cond_true true (by kernel_rfl) rfl ?_
  refine W.sr fun K8 hK8 => ?_
  refine zE 1 (hK8 _ _ ?_)
  refine W.ret (ret_seq ?_)
  refine ret_of (.int .i64 (-1)) (by kernel_rfl) ⟨_, ⟨congrArg (Value.int .i64) (by have hse_ := sess_range i_; unfold slotAt; split <;> omega), rfl⟩, hs6⟩
 ·
  have h7p := of_decide_eq_false h7
  refine zS 8 h7 ?_
  refine zS 7 h7 ?_
  refine zR 4 ?_
  rcases Bool.eq_false_or_eq_true (decide (k_ < 0)) with h9 | h9
  ·
   have h9p := of_decide_eq_true h9
   refine zS 12 h9 ?_
   refine zS 10 h9 ?_
   refine zS 11 h9 ?_
   refine zE 3 (hK3 _ _ ?_)
   refine W.cond_true true (by kernel_rfl) rfl ?_
   refine W.sr fun K10 hK10 => ?_
   refine zE 1 (hK10 _ _ ?_)
   refine W.ret (ret_seq ?_)
   refine ret_of (.int .i64 (-1)) (by kernel_rfl) ⟨_, ⟨congrArg (Value.int .i64) (by have hse_ := sess_range i_; unfold slotAt; split <;> omega), rfl⟩, hs6⟩
  ·
   have h9p := of_decide_eq_false h9
   refine zS 12 h9 ?_
   refine zS 10 h9 ?_
   refine zS 11 h9 ?_
   refine zE 3 (hK3 _ _ ?_)
   refine W.cond (decide (k_ ≥ 4)) (by kernel_rfl) (fun h11 => ?_) (fun h11 => ?_)
   ·
    have h11p := of_decide_eq_true h11
    refine W.sr fun K12 hK12 => ?_
    refine zE 1 (hK12 _ _ ?_)
    refine W.ret (ret_seq ?_)
    refine ret_of (.int .i64 (-1)) (by kernel_rfl) ⟨_, ⟨congrArg (Value.int .i64) (by have hse_ := sess_range i_; unfold slotAt; split <;> omega), rfl⟩, hs6⟩
   ·
    have h11p := of_decide_eq_false h11
    refine W.skip ?_
    refine hK2 _ _ ?_
    refine W.sr fun K13 hK13 => ?_
    refine zR 1 ?_
    refine zC00 hs6 (rsess_spec (i_ := i_) B _) fun w14 hs16 => ?_
    have h17 : -9223372036854775808 ≤ ((sessAt i_) + 8) ∧ ((sessAt i_) + 8) ≤ 9223372036854775807 := by (have hse_ := sess_range i_; omega)
    refine zI _ (wrap_i64 h17.1 h17.2) ?_
    refine zR 1 ?_
    have h18 : -9223372036854775808 ≤ (12 * k_) ∧ (12 * k_) ≤ 9223372036854775807 := by (have hse_ := sess_range i_; omega)
    refine zI _ (wrap_i64 h18.1 h18.2) ?_
    have h19 : -9223372036854775808 ≤ (((sessAt i_) + 8) + (12 * k_)) ∧ (((sessAt i_) + 8) + (12 * k_)) ≤ 9223372036854775807 := by (have hse_ := sess_range i_; omega)
    refine zI _ (wrap_i64 h19.1 h19.2) ?_
    refine zE 1 (hK13 _ _ ?_)
    refine W.ret ?_
    refine ret_of (.int .i64 (((sessAt i_) + 8) + (12 * k_))) (by kernel_rfl) ⟨_, ⟨congrArg (Value.int .i64) (by have hse_ := sess_range i_; unfold slotAt; split <;> omega), rfl⟩, hs16⟩

theorem rdescat_spec {i_ k_ : Int} (B : Nat) (w : World) : Spec Tryd.prog 113 #[(.int .i64 i_), (.int .i64 k_)] B w [] (fun v H' => v = .int .i64 (descAt i_ k_) ∧ H' = []) := by
 refine spec_Q Tryd.func113 rfl fun hs => ?_
 refine W.sr fun K1 hK1 => ?_
 refine zE 1 (hK1 _ _ ?_)
 refine W.seq fun K2 hK2 => ?_
 refine W.sr fun K3 hK3 => ?_
 refine zR 1 ?_
 refine zC00 hs (rsess_spec (i_ := i_) B _) fun w4 hs6 => ?_
 refine zR 2 ?_
 rcases Bool.eq_false_or_eq_true (decide ((sessAt i_) < 0)) with h7 | h7
 ·
  have h7p := of_decide_eq_true h7
  refine zS 8 h7 ?_
  refine zS 7 h7 ?_
  refine zE 7 (hK3 _ _ ?_)
  refine W.cond_true true (by kernel_rfl) rfl ?_
  refine W.sr fun K8 hK8 => ?_
  refine zE 1 (hK8 _ _ ?_)
  refine W.ret (ret_seq ?_)
  refine ret_of (.int .i64 (-1)) (by kernel_rfl) ⟨_, ⟨congrArg (Value.int .i64) (by have hse_ := sess_range i_; unfold descAt; split <;> omega), rfl⟩, hs6⟩
 ·
  have h7p := of_decide_eq_false h7
  refine zS 8 h7 ?_
  refine zS 7 h7 ?_
  refine zR 4 ?_
  rcases Bool.eq_false_or_eq_true (decide (k_ < 0)) with h9 | h9
  ·
   have h9p := of_decide_eq_true h9
   refine zS 12 h9 ?_
   refine zS 10 h9 ?_
   refine zS 11 h9 ?_
   refine zE 3 (hK3 _ _ ?_)
   refine W.cond_true true (by kernel_rfl) rfl ?_
   refine W.sr fun K10 hK10 => ?_
   refine zE 1 (hK10 _ _ ?_)
   refine W.ret (ret_seq ?_)
   refine ret_of (.int .i64 (-1)) (by kernel_rfl) ⟨_, ⟨congrArg (Value.int .i64) (by have hse_ := sess_range i_; unfold descAt; split <;> omega), rfl⟩, hs6⟩
  ·
   have h9p := of_decide_eq_false h9
   refine zS 12 h9 ?_
   refine zS 10 h9 ?_
   refine zS 11 h9 ?_
   refine zE 3 (hK3 _ _ ?_)
   refine W.cond (decide (k_ ≥ 4)) (by kernel_rfl) (fun h11 => ?_) (fun h11 => ?_)
   ·
    have h11p := of_decide_eq_true h11
    refine W.sr fun K12 hK12 => ?_
    refine zE 1 (hK12 _ _ ?_)
    refine W.ret (ret_seq ?_)
    refine ret_of (.int .i64 (-1)) (by kernel_rfl) ⟨_, ⟨congrArg (Value.int .i64) (by have hse_ := sess_range i_; unfold descAt; split <;> omega), rfl⟩, hs6⟩
   ·
    have h11p := of_decide_eq_false h11
    refine W.skip ?_
    refine hK2 _ _ ?_
    refine W.sr fun K13 hK13 => ?_
    refine zR 1 ?_
    refine zC00 hs6 (rsess_spec (i_ := i_) B _) fun w14 hs16 => ?_
    have h17 : -9223372036854775808 ≤ ((sessAt i_) + 8) ∧ ((sessAt i_) + 8) ≤ 9223372036854775807 := by (have hse_ := sess_range i_; omega)
    refine zI _ (wrap_i64 h17.1 h17.2) ?_
    have h18 : -9223372036854775808 ≤ (((sessAt i_) + 8) + 48) ∧ (((sessAt i_) + 8) + 48) ≤ 9223372036854775807 := by (have hse_ := sess_range i_; omega)
    refine zI _ (wrap_i64 h18.1 h18.2) ?_
    refine zR 1 ?_
    have h19 : -9223372036854775808 ≤ (2 * k_) ∧ (2 * k_) ≤ 9223372036854775807 := by (have hse_ := sess_range i_; omega)
    refine zI _ (wrap_i64 h19.1 h19.2) ?_
    have h20 : -9223372036854775808 ≤ ((((sessAt i_) + 8) + 48) + (2 * k_)) ∧ ((((sessAt i_) + 8) + 48) + (2 * k_)) ≤ 9223372036854775807 := by (have hse_ := sess_range i_; omega)
    refine zI _ (wrap_i64 h20.1 h20.2) ?_
    refine zE 1 (hK13 _ _ ?_)
    refine W.ret ?_
    refine ret_of (.int .i64 ((((sessAt i_) + 8) + 48) + (2 * k_))) (by kernel_rfl) ⟨_, ⟨congrArg (Value.int .i64) (by have hse_ := sess_range i_; unfold descAt; split <;> omega), rfl⟩, hs16⟩

end Go.Proofs.YthimamnblklkbaaDoor

set_option maxRecDepth 20000
namespace Go.Proofs.YthimamnblklkbaaDoor
open Go Go.RowKit
set_option linter.unusedSimpArgs false
set_option linter.unusedVariables false

theorem format_spec {gw gi gb : Int} (B : Nat) (w : World) : Spec Tryd.prog 63 #[(.agg #[(.int .i64 gw), (.int .i64 gi), (.int .i64 gb)])] B w [] (fun v H' => ∃ a' c', v = .slice a' (fmtW gw gi gb).length c' ∧ H' = [kU64.row a' c' (fmtW gw gi gb)]) := by
 refine spec_Q Tryd.func63 rfl fun hs => ?_
 refine W.sr fun K1 hK1 => ?_
 refine zN [(.int .i64 gw), (.int .i64 gi), (.int .i64 gb)] 88 hs fun b4 w2 hs3 => ?_
 refine zE 1 (hK1 _ _ ?_)
 refine W.seq fun K5 hK5 => ?_
 refine W.sr fun K6 hK6 => ?_
 refine ops_R (runs_loadAgg (ad := ⟨b4, 0, none⟩) (cs := [(.int .i64 gw), (.int .i64 gi), (.int .i64 gb)]) (by kernel_rfl) (cells_sub (hs3.heapAt 0 rfl) rfl)) ?_
 refine zC00 hs3 (rmay_spec (gw := gw) (gi := gi) (gb := gb) B _) fun w7 hs9 => ?_
 refine zE 1 (hK6 _ _ ?_)
 refine W.cond (!(decide (May gw gi gb))) (by kernel_rfl) (fun h10 => ?_) (fun h10 => ?_)
 ·
  have h10p : ¬ (May gw gi gb) := of_decide_eq_false (bnot_true h10)
  refine W.sr fun K11 hK11 => ?_
  refine zE 1 (hK11 _ _ ?_)
  refine W.ret (ret_seq ?_)
  have hs12 := St.tk0 hs9
  have hk := St.knil kU64 hs12
  have e_ : fmtW gw gi gb = [] := if_neg (by assumption)
  refine ret_of (.slice none 0 0) (by kernel_rfl) ⟨_, ⟨none, 0, by rw [e_]; rfl, by rw [e_]⟩, hk⟩
 ·
  have h10p : May gw gi gb := of_decide_eq_true (bnot_false h10)
  have hm : May gw gi gb := h10p
  have hm_ : (1 ≤ gw ∧ gw ≤ 4) ∧ (2 ≤ gi ∧ gi ≤ 64) ∧ (2 ≤ gb ∧ gb ≤ 512) := hm
  have hwd := words_may hm
  have hp6 := place6 hm
  have hp7 := place7 hm
  have hp8 := place8_in (n := 1) hm (by omega)
  refine W.skip ?_
  refine hK5 _ _ ?_
  refine W.sr fun K13 hK13 => ?_
  refine ops_R (runs_loadAgg (ad := ⟨b4, 0, none⟩) (cs := [(.int .i64 gw), (.int .i64 gi), (.int .i64 gb)]) (by kernel_rfl) (cells_sub (hs9.heapAt 0 rfl) rfl)) ?_
  refine zC00 hs9 (rwords_spec (gw := gw) (gi := gi) (gb := gb) B _) fun w14 hs16 => ?_
  refine ops_makeSlice kU64 0 (z := (wordsOf gw gi gb)) (bytes := 8) ((wordsOf gw gi gb).toNat) (by omega) hs16 (by kernel_rfl) (by omega) (by unfold maxLen; omega) (fun b17 w18 hs19 => ?_)
  refine zE 1 (hK13 _ _ ?_)
  refine W.sr fun K20 hK20 => ?_
  refine zR 1 ?_
  have hk21 : 0 < (wordsOf gw gi gb).toNat := by omega
  have hk22 : 0 < (List.replicate ((wordsOf gw gi gb).toNat) (0 : Int)).length := by simp only [List.length_set, List.length_replicate]; exact hk21
  refine ops_R (runs_index (a := (some ⟨b17, 0, none⟩)) (n := (wordsOf gw gi gb).toNat) (z := 0) (size := 1) 0 rfl hk21 (kU64.addr (St.kcells kU64 hs19 0 rfl) hk22) (by kernel_rfl)) ?_
  refine ops_storeK kU64 (j := 0) (vs := [(.int .u64 32762617960297063)]) 0 32762617960297063 hs19 hk22 (Nat.le_of_ble_eq_true rfl) (by simp) rfl rfl (by kernel_rfl) (fun w23 hs24 => ?_)
  refine zD (hK20 _ _ ?_)
  refine W.sr fun K26 hK26 => ?_
  refine zR 2 ?_
  refine zL ⟨b4, 0, none⟩ (.int .i64 gw) (hs24.cellAt 1 rfl rfl) ?_
  refine zI gw (wrap_u64 (by omega) (by omega)) ?_
  have hk27 : 1 < (wordsOf gw gi gb).toNat := by omega
  have hk28 : 1 < ((List.replicate ((wordsOf gw gi gb).toNat) (0 : Int)).set 0 32762617960297063).length := by simp only [List.length_set, List.length_replicate]; exact hk27
  refine ops_R (runs_index (a := (some ⟨b17, 0, none⟩)) (n := (wordsOf gw gi gb).toNat) (z := 1) (size := 1) 1 rfl hk27 (kU64.addr (St.kcells kU64 hs24 0 rfl) hk28) (by kernel_rfl)) ?_
  refine ops_storeK kU64 (j := 0) (vs := [(.int .u64 gw)]) 0 gw hs24 hk28 (Nat.le_of_ble_eq_true rfl) (by simp) rfl rfl (by kernel_rfl) (fun w29 hs30 => ?_)
  refine zD (hK26 _ _ ?_)
  refine W.sr fun K32 hK32 => ?_
  refine zR 2 ?_
  refine zL ⟨b4, 1, none⟩ (.int .i64 gi) (hs30.cellAt 1 rfl rfl) ?_
  refine zI gi (wrap_u64 (by omega) (by omega)) ?_
  have hk33 : 2 < (wordsOf gw gi gb).toNat := by omega
  have hk34 : 2 < (((List.replicate ((wordsOf gw gi gb).toNat) (0 : Int)).set 0 32762617960297063).set 1 gw).length := by simp only [List.length_set, List.length_replicate]; exact hk33
  refine ops_R (runs_index (a := (some ⟨b17, 0, none⟩)) (n := (wordsOf gw gi gb).toNat) (z := 2) (size := 1) 2 rfl hk33 (kU64.addr (St.kcells kU64 hs30 0 rfl) hk34) (by kernel_rfl)) ?_
  refine ops_storeK kU64 (j := 0) (vs := [(.int .u64 gi)]) 0 gi hs30 hk34 (Nat.le_of_ble_eq_true rfl) (by simp) rfl rfl (by kernel_rfl) (fun w35 hs36 => ?_)
  refine zD (hK32 _ _ ?_)
  refine W.sr fun K38 hK38 => ?_
  refine zR 2 ?_
  refine zL ⟨b4, 2, none⟩ (.int .i64 gb) (hs36.cellAt 1 rfl rfl) ?_
  refine zI gb (wrap_u64 (by omega) (by omega)) ?_
  have hk39 : 3 < (wordsOf gw gi gb).toNat := by omega
  have hk40 : 3 < ((((List.replicate ((wordsOf gw gi gb).toNat) (0 : Int)).set 0 32762617960297063).set 1 gw).set 2 gi).length := by simp only [List.length_set, List.length_replicate]; exact hk39
  refine ops_R (runs_index (a := (some ⟨b17, 0, none⟩)) (n := (wordsOf gw gi gb).toNat) (z := 3) (size := 1) 3 rfl hk39 (kU64.addr (St.kcells kU64 hs36 0 rfl) hk40) (by kernel_rfl)) ?_
  refine ops_storeK kU64 (j := 0) (vs := [(.int .u64 gb)]) 0 gb hs36 hk40 (Nat.le_of_ble_eq_true rfl) (by simp) rfl rfl (by kernel_rfl) (fun w41 hs42 => ?_)
  refine zD (hK38 _ _ ?_)
  refine W.sr fun K44 hK44 => ?_
  refine zR 1 ?_
  refine ops_R (runs_loadAgg (ad := ⟨b4, 0, none⟩) (cs := [(.int .i64 gw), (.int .i64 gi), (.int .i64 gb)]) (by kernel_rfl) (cells_sub (hs42.heapAt 1 rfl) rfl)) ?_
  refine zC00 hs42 (rmapat_spec (gw := gw) (gi := gi) (gb := gb) B _) fun w45 hs47 => ?_
  have hk48 : (placeOf 6 gw gi gb 0).toNat < (wordsOf gw gi gb).toNat := by omega
  have hk49 : (placeOf 6 gw gi gb 0).toNat < (((((List.replicate ((wordsOf gw gi gb).toNat) (0 : Int)).set 0 32762617960297063).set 1 gw).set 2 gi).set 3 gb).length := by simp only [List.length_set, List.length_replicate]; exact hk48
  refine ops_R (runs_index (a := (some ⟨b17, 0, none⟩)) (n := (wordsOf gw gi gb).toNat) (z := (placeOf 6 gw gi gb 0)) (size := 1) ((placeOf 6 gw gi gb 0).toNat) (by omega) hk48 (kU64.addr (St.kcells kU64 hs47 0 rfl) hk49) (by kernel_rfl)) ?_
  refine ops_storeK kU64 (j := 0) (vs := [(.int .u64 3)]) 0 3 hs47 hk49 (Nat.le_of_ble_eq_true rfl) (by simp) rfl rfl (by kernel_rfl) (fun w50 hs51 => ?_)
  refine zD (hK44 _ _ ?_)
  refine W.sr fun K53 hK53 => ?_
  refine zR 1 ?_
  refine ops_R (runs_loadAgg (ad := ⟨b4, 0, none⟩) (cs := [(.int .i64 gw), (.int .i64 gi), (.int .i64 gb)]) (by kernel_rfl) (cells_sub (hs51.heapAt 1 rfl) rfl)) ?_
  refine zC00 hs51 (rbmapat_spec (gw := gw) (gi := gi) (gb := gb) B _) fun w54 hs56 => ?_
  have hk57 : (placeOf 7 gw gi gb 0).toNat < (wordsOf gw gi gb).toNat := by omega
  have hk58 : (placeOf 7 gw gi gb 0).toNat < ((((((List.replicate ((wordsOf gw gi gb).toNat) (0 : Int)).set 0 32762617960297063).set 1 gw).set 2 gi).set 3 gb).set ((placeOf 6 gw gi gb 0).toNat) 3).length := by simp only [List.length_set, List.length_replicate]; exact hk57
  refine ops_R (runs_index (a := (some ⟨b17, 0, none⟩)) (n := (wordsOf gw gi gb).toNat) (z := (placeOf 7 gw gi gb 0)) (size := 1) ((placeOf 7 gw gi gb 0).toNat) (by omega) hk57 (kU64.addr (St.kcells kU64 hs56 0 rfl) hk58) (by kernel_rfl)) ?_
  refine ops_storeK kU64 (j := 0) (vs := [(.int .u64 1)]) 0 1 hs56 hk58 (Nat.le_of_ble_eq_true rfl) (by simp) rfl rfl (by kernel_rfl) (fun w59 hs60 => ?_)
  refine zD (hK53 _ _ ?_)
  refine W.sr fun K62 hK62 => ?_
  refine zR 1 ?_
  refine ops_R (runs_loadAgg (ad := ⟨b4, 0, none⟩) (cs := [(.int .i64 gw), (.int .i64 gi), (.int .i64 gb)]) (by kernel_rfl) (cells_sub (hs60.heapAt 1 rfl) rfl)) ?_
  refine zC00 hs60 (rinodeat_spec (gw := gw) (gi := gi) (gb := gb) (n_ := 1) B _) fun w63 hs65 => ?_
  have hk66 : (placeOf 8 gw gi gb 1).toNat < (wordsOf gw gi gb).toNat := by omega
  have hk67 : (placeOf 8 gw gi gb 1).toNat < (((((((List.replicate ((wordsOf gw gi gb).toNat) (0 : Int)).set 0 32762617960297063).set 1 gw).set 2 gi).set 3 gb).set ((placeOf 6 gw gi gb 0).toNat) 3).set ((placeOf 7 gw gi gb 0).toNat) 1).length := by simp only [List.length_set, List.length_replicate]; exact hk66
  refine ops_R (runs_index (a := (some ⟨b17, 0, none⟩)) (n := (wordsOf gw gi gb).toNat) (z := (placeOf 8 gw gi gb 1)) (size := 1) ((placeOf 8 gw gi gb 1).toNat) (by omega) hk66 (kU64.addr (St.kcells kU64 hs65 0 rfl) hk67) (by kernel_rfl)) ?_
  refine ops_storeK kU64 (j := 0) (vs := [(.int .u64 2)]) 0 2 hs65 hk67 (Nat.le_of_ble_eq_true rfl) (by simp) rfl rfl (by kernel_rfl) (fun w68 hs69 => ?_)
  refine zD (hK62 _ _ ?_)
  refine W.sr fun K71 hK71 => ?_
  refine zR 1 ?_
  refine ops_R (runs_loadAgg (ad := ⟨b4, 0, none⟩) (cs := [(.int .i64 gw), (.int .i64 gi), (.int .i64 gb)]) (by kernel_rfl) (cells_sub (hs69.heapAt 1 rfl) rfl)) ?_
  refine zC00 hs69 (rinodeat_spec (gw := gw) (gi := gi) (gb := gb) (n_ := 1) B _) fun w72 hs74 => ?_
  refine zI ((placeOf 8 gw gi gb 1) + 1) (wrap_i64 (by omega) (by omega)) ?_
  have hk75 : ((placeOf 8 gw gi gb 1) + 1).toNat < (wordsOf gw gi gb).toNat := by omega
  have hk76 : ((placeOf 8 gw gi gb 1) + 1).toNat < ((((((((List.replicate ((wordsOf gw gi gb).toNat) (0 : Int)).set 0 32762617960297063).set 1 gw).set 2 gi).set 3 gb).set ((placeOf 6 gw gi gb 0).toNat) 3).set ((placeOf 7 gw gi gb 0).toNat) 1).set ((placeOf 8 gw gi gb 1).toNat) 2).length := by simp only [List.length_set, List.length_replicate]; exact hk75
  refine ops_R (runs_index (a := (some ⟨b17, 0, none⟩)) (n := (wordsOf gw gi gb).toNat) (z := ((placeOf 8 gw gi gb 1) + 1)) (size := 1) (((placeOf 8 gw gi gb 1) + 1).toNat) (by omega) hk75 (kU64.addr (St.kcells kU64 hs74 0 rfl) hk76) (by kernel_rfl)) ?_
  refine ops_storeK kU64 (j := 0) (vs := [(.int .u64 1)]) 0 1 hs74 hk76 (Nat.le_of_ble_eq_true rfl) (by simp) rfl rfl (by kernel_rfl) (fun w77 hs78 => ?_)
  refine zD (hK71 _ _ ?_)
  refine W.sr fun K80 hK80 => ?_
  refine zE 2 (hK80 _ _ ?_)
  refine W.ret ?_
  have hs81 := St.tk1 hs78
  have e_ : (((((((((List.replicate ((wordsOf gw gi gb).toNat) (0 : Int)).set 0 32762617960297063).set 1 gw).set 2 gi).set 3 gb).set ((placeOf 6 gw gi gb 0).toNat) 3).set ((placeOf 7 gw gi gb 0).toNat) 1).set ((placeOf 8 gw gi gb 1).toNat) 2).set (((placeOf 8 gw gi gb 1) + 1).toNat) 1) = fmtW gw gi gb := (if_pos hm).symm
  have hs_ := hs81
  rw [e_] at hs_
  refine ret_of (.slice (some ⟨b17, 0, none⟩) ((wordsOf gw gi gb).toNat) ((wordsOf gw gi gb).toNat)) (by kernel_rfl) ⟨_, ⟨(some ⟨b17, 0, none⟩), (wordsOf gw gi gb).toNat, by rw [fmtW_len], rfl⟩, hs_⟩

theorem small_spec {x_ y_ : Int} (B : Nat) (w : World) (hx : 0 ≤ x_ ∧ x_ ≤ 255) (hy : 0 ≤ y_ ∧ y_ ≤ 255) : Spec Tryd.prog 39 #[(.int .u8 x_), (.int .u8 y_)] B w [] (fun v H' => v = .agg #[.int .i64 1, .int .i64 (2 + x_ % 20), .int .i64 (2 + y_ % 60)] ∧ H' = []) := by
 refine spec_Q Tryd.func39 rfl fun hs => ?_
 refine W.sr fun K1 hK1 => ?_
 refine zN [(.int .i64 0), (.int .i64 0), (.int .i64 0)] 63 hs fun b4 w2 hs3 => ?_
 refine zD (hK1 _ _ ?_)
 refine W.sr fun K5 hK5 => ?_
 refine zR 1 ?_
 refine zI x_ (wrap_i64 (by omega) (by omega)) ?_
 obtain ⟨r6, hr7, hl8, he9⟩ := rem_nat (x := x_) (y := 20) (by omega) (by omega)
 refine ops_R (v := .int .i64 (r6 : Int)) (runs_rem (k := .i64) (a := x_) (b := 20) (by kernel_rfl) (by omega) hr7) ?_
 refine zI (2 + (r6 : Int)) (wrap_i64 (by omega) (by omega)) ?_
 refine zR 1 ?_
 refine zI y_ (wrap_i64 (by omega) (by omega)) ?_
 obtain ⟨r10, hr11, hl12, he13⟩ := rem_nat (x := y_) (y := 60) (by omega) (by omega)
 refine ops_R (v := .int .i64 (r10 : Int)) (runs_rem (k := .i64) (a := y_) (b := 60) (by kernel_rfl) (by omega) hr11) ?_
 refine zI (2 + (r10 : Int)) (wrap_i64 (by omega) (by omega)) ?_
 refine zR 1 ?_
 refine ops_store (off := 0) (cs := [(.int .i64 0), (.int .i64 0), (.int .i64 0)]) (vs := [(.int .i64 1), (.int .i64 (2 + (r6 : Int))), (.int .i64 (2 + (r10 : Int)))]) hs3 (by kernel_rfl) (by simp) rfl (fun w14 hs15 => ?_)
 have hs16 : St B w [] w14 [blk b4 (.cells [(.int .i64 1), (.int .i64 (2 + (r6 : Int))), (.int .i64 (2 + (r10 : Int)))].toArray 63 (0, 0))] := hs15
 refine zD (hK5 _ _ ?_)
 refine W.ret ?_
 have hs17 := St.tk0 hs16
 refine ret_of (.agg #[(.int .i64 1), (.int .i64 (2 + (r6 : Int))), (.int .i64 (2 + (r10 : Int)))]) (results_cell (ad := ⟨b4, 0, none⟩) (cs := [(.int .i64 1), (.int .i64 (2 + (r6 : Int))), (.int .i64 (2 + (r10 : Int)))]) rfl (by kernel_rfl) (by kernel_rfl) (cells_sub (hs16.heapAt 0 rfl) rfl)) ⟨_, ⟨by simp only [*], rfl⟩, hs17⟩

end Go.Proofs.YthimamnblklkbaaDoor

set_option maxRecDepth 20000
namespace Go.Proofs.YthimamnblklkbaaDoor
open Go Go.RowKit
set_option linter.unusedSimpArgs false
set_option linter.unusedVariables false

theorem sset_spec {b : Nat} {img : List Int} {l : List (Int × Int)} {at_ x_ : Int} (B : Nat) (w : World) : Spec Tryd.prog 35 #[(.pointer (some ⟨b, 0, none⟩)), (.int .i64 at_), (.int .u64 x_)] B w [viewA (ptr b) img l] (fun v H' => v = .int .i64 (vwrite img l at_ x_).1 ∧ H' = [viewA (ptr b) img (vwrite img l at_ x_).2]) := by
 refine spec_W Tryd.func35 rfl fun l0 hs => ?_
 refine W.sr fun K1 hK1 => ?_
 refine zE 1 (hK1 _ _ ?_)
 refine W.seq fun K2 hK2 => ?_
 refine W.block ?_
 refine W.sr fun K3 hK3 => ?_
 refine zE 3 (hK3 _ _ ?_)
 refine W.cond_false false (by kernel_rfl) rfl ?_
 refine W.seq fun K4 hK4 => ?_
 refine W.sr fun K5 hK5 => ?_
 refine zE 3 (hK5 _ _ ?_)
 refine W.cond (decide (at_ < 0)) (by kernel_rfl) (fun h6 => ?_) (fun h6 => ?_)
 ·
  have h6p := of_decide_eq_true h6
  refine W.skip ?_
  refine hK4 _ _ ?_
  refine W.cond (decide (at_ < 0)) (by kernel_rfl) (fun h7 => ?_) (fun h7 => ?_)
  ·
   have h7p := of_decide_eq_true h7
   refine W.sr fun K8 hK8 => ?_
   refine zE 1 (hK8 _ _ ?_)
   refine W.ret (ret_block (ret_seq ?_))
   have e1_ : (vwrite img l at_ x_).1 = 8 := by first | (exfalso; omega) | (simp only [vwrite]; rw [if_pos (by omega)]) | (simp only [vwrite]; rw [if_neg (by omega), if_pos (by assumption)]) | (simp only [vwrite]; rw [if_neg (by omega), if_neg (by assumption)])
   have e2_ : (vwrite img l at_ x_).2 = l := by first | (exfalso; omega) | (simp only [vwrite]; rw [if_pos (by omega)]) | (simp only [vwrite]; rw [if_neg (by omega), if_pos (by assumption)]) | (simp only [vwrite]; rw [if_neg (by omega), if_neg (by assumption)])
   refine ret_of (.int .i64 8) (by kernel_rfl) ⟨_, ⟨by rw [e1_], by rw [e2_]⟩, hs⟩
  ·
   have h7p := of_decide_eq_false h7
   refine W.sr fun K9 hK9 => ?_
   refine zR 2 ?_
   refine zC00 hs (get_spec (at_ := at_) (hv := (hs.entAt 0 rfl viewA_at)) B _) fun w10 hs12 => ?_
   refine zE 3 (hK9 _ _ ?_)
   refine W.cond (decide ((vget img l at_) = x_)) (by kernel_rfl) (fun h13 => ?_) (fun h13 => ?_)
   ·
    have h13p := of_decide_eq_true h13
    refine W.sr fun K14 hK14 => ?_
    refine zE 1 (hK14 _ _ ?_)
    refine W.ret (ret_block (ret_seq ?_))
    have e1_ : (vwrite img l at_ x_).1 = 0 := by first | (exfalso; omega) | (simp only [vwrite]; rw [if_pos (by omega)]) | (simp only [vwrite]; rw [if_neg (by omega), if_pos (by assumption)]) | (simp only [vwrite]; rw [if_neg (by omega), if_neg (by assumption)])
    have e2_ : (vwrite img l at_ x_).2 = l := by first | (exfalso; omega) | (simp only [vwrite]; rw [if_pos (by omega)]) | (simp only [vwrite]; rw [if_neg (by omega), if_pos (by assumption)]) | (simp only [vwrite]; rw [if_neg (by omega), if_neg (by assumption)])
    refine ret_of (.int .i64 0) (by kernel_rfl) ⟨_, ⟨by rw [e1_], by rw [e2_]⟩, hs12⟩
   ·
    have h13p := of_decide_eq_false h13
    refine W.skip ?_
    refine normal_block ?_
    refine hK2 _ _ ?_
    refine W.sr fun K15 hK15 => ?_
    refine zR 3 ?_
    refine zC11 hs12 (put_spec (p := (.pointer (some ⟨b, 0, none⟩))) (img := img) (l := l) (at_ := at_) (x_ := x_) B _) fun w16 hs18 => ?_
    refine zE 1 (hK15 _ _ ?_)
    refine W.ret ?_
    have e1_ : (vwrite img l at_ x_).1 = (vput img l at_ x_).1 := by first | (exfalso; omega) | (simp only [vwrite]; rw [if_pos (by omega)]) | (simp only [vwrite]; rw [if_neg (by omega), if_pos (by assumption)]) | (simp only [vwrite]; rw [if_neg (by omega), if_neg (by assumption)])
    have e2_ : (vwrite img l at_ x_).2 = (vput img l at_ x_).2 := by first | (exfalso; omega) | (simp only [vwrite]; rw [if_pos (by omega)]) | (simp only [vwrite]; rw [if_neg (by omega), if_pos (by assumption)]) | (simp only [vwrite]; rw [if_neg (by omega), if_neg (by assumption)])
    refine ret_of (.int .i64 ((vput img l at_ x_).1)) (by kernel_rfl) ⟨_, ⟨by rw [e1_], by rw [e2_]⟩, hs18⟩
 ·
  have h6p := of_decide_eq_false h6
  refine W.region ?_
  refine zR 2 ?_
  refine zC00 hs (len_spec (hv := (hs.entAt 0 rfl viewA_at)) B _) fun w19 hs21 => ?_
  refine zE 2 (hK4 _ _ ?_)
  refine W.cond (decide (at_ ≥ (img.length : Int))) (by kernel_rfl) (fun h22 => ?_) (fun h22 => ?_)
  ·
   have h22p := of_decide_eq_true h22
   refine W.sr fun K23 hK23 => ?_
   refine zE 1 (hK23 _ _ ?_)
   refine W.ret (ret_block (ret_seq ?_))
   have e1_ : (vwrite img l at_ x_).1 = 8 := by first | (exfalso; omega) | (simp only [vwrite]; rw [if_pos (by omega)]) | (simp only [vwrite]; rw [if_neg (by omega), if_pos (by assumption)]) | (simp only [vwrite]; rw [if_neg (by omega), if_neg (by assumption)])
   have e2_ : (vwrite img l at_ x_).2 = l := by first | (exfalso; omega) | (simp only [vwrite]; rw [if_pos (by omega)]) | (simp only [vwrite]; rw [if_neg (by omega), if_pos (by assumption)]) | (simp only [vwrite]; rw [if_neg (by omega), if_neg (by assumption)])
   refine ret_of (.int .i64 8) (by kernel_rfl) ⟨_, ⟨by rw [e1_], by rw [e2_]⟩, hs21⟩
  ·
   have h22p := of_decide_eq_false h22
   refine W.sr fun K24 hK24 => ?_
   refine zR 2 ?_
   refine zC00 hs21 (get_spec (at_ := at_) (hv := (hs21.entAt 0 rfl viewA_at)) B _) fun w25 hs27 => ?_
   refine zE 3 (hK24 _ _ ?_)
   refine W.cond (decide ((vget img l at_) = x_)) (by kernel_rfl) (fun h28 => ?_) (fun h28 => ?_)
   ·
    have h28p := of_decide_eq_true h28
    refine W.sr fun K29 hK29 => ?_
    refine zE 1 (hK29 _ _ ?_)
    refine W.ret (ret_block (ret_seq ?_))
    have e1_ : (vwrite img l at_ x_).1 = 0 := by first | (exfalso; omega) | (simp only [vwrite]; rw [if_pos (by omega)]) | (simp only [vwrite]; rw [if_neg (by omega), if_pos (by assumption)]) | (simp only [vwrite]; rw [if_neg (by omega), if_neg (by assumption)])
    have e2_ : (vwrite img l at_ x_).2 = l := by first | (exfalso; omega) | (simp only [vwrite]; rw [if_pos (by omega)]) | (simp only [vwrite]; rw [if_neg (by omega), if_pos (by assumption)]) | (simp only [vwrite]; rw [if_neg (by omega), if_neg (by assumption)])
    refine ret_of (.int .i64 0) (by kernel_rfl) ⟨_, ⟨by rw [e1_], by rw [e2_]⟩, hs27⟩
   ·
    have h28p := of_decide_eq_false h28
    refine W.skip ?_
    refine normal_block ?_
    refine hK2 _ _ ?_
    refine W.sr fun K30 hK30 => ?_
    refine zR 3 ?_
    refine zC11 hs27 (put_spec (p := (.pointer (some ⟨b, 0, none⟩))) (img := img) (l := l) (at_ := at_) (x_ := x_) B _) fun w31 hs33 => ?_
    refine zE 1 (hK30 _ _ ?_)
    refine W.ret ?_
    have e1_ : (vwrite img l at_ x_).1 = (vput img l at_ x_).1 := by first | (exfalso; omega) | (simp only [vwrite]; rw [if_pos (by omega)]) | (simp only [vwrite]; rw [if_neg (by omega), if_pos (by assumption)]) | (simp only [vwrite]; rw [if_neg (by omega), if_neg (by assumption)])
    have e2_ : (vwrite img l at_ x_).2 = (vput img l at_ x_).2 := by first | (exfalso; omega) | (simp only [vwrite]; rw [if_pos (by omega)]) | (simp only [vwrite]; rw [if_neg (by omega), if_pos (by assumption)]) | (simp only [vwrite]; rw [if_neg (by omega), if_neg (by assumption)])
    refine ret_of (.int .i64 ((vput img l at_ x_).1)) (by kernel_rfl) ⟨_, ⟨by rw [e1_], by rw [e2_]⟩, hs33⟩

theorem sset_spec_nil {at_ x_ : Int} (B : Nat) (w : World) : Spec Tryd.prog 35 #[(.pointer none), (.int .i64 at_), (.int .u64 x_)] B w [] (fun v H' => v = .int .i64 2 ∧ H' = []) := by
 refine spec_Q Tryd.func35 rfl fun hs => ?_
 refine W.sr fun K1 hK1 => ?_
 refine zE 1 (hK1 _ _ ?_)
 refine W.seq fun K2 hK2 => ?_
 refine W.block ?_
 refine W.sr fun K3 hK3 => ?_
 refine zE 3 (hK3 _ _ ?_)
 refine W.cond_true true (by kernel_rfl) rfl ?_
 refine W.sr fun K4 hK4 => ?_
 refine zE 1 (hK4 _ _ ?_)
 refine W.ret (ret_block (ret_seq ?_))
 refine ret_of (.int .i64 2) (by kernel_rfl) ⟨_, ⟨rfl, rfl⟩, hs⟩

theorem rset_spec {b : Nat} {img : List Int} {l : List (Int × Int)} {at_ x_ : Int} (B : Nat) (w : World) : Spec Tryd.prog 49 #[(.pointer (some ⟨b, 0, none⟩)), (.int .i64 at_), (.int .u64 x_)] B w [refA (ptr b) img l] (fun v H' => v = .int .i64 (vwrite img l at_ x_).1 ∧ H' = [refA (ptr b) img (vwrite img l at_ x_).2]) := by
 refine spec_W Tryd.func49 rfl fun l0 hs => ?_
 refine W.sr fun K1 hK1 => ?_
 refine zE 1 (hK1 _ _ ?_)
 refine W.seq fun K2 hK2 => ?_
 refine W.seq fun K3 hK3 => ?_
 obtain ⟨⟨_, ia4, ic5, la6, lc7, mn8⟩, ⟨ex9, hok10⟩, hs11⟩ := St.open hs
 have hs12 : St B w l0 w [blk b (.cells [(.slice ia4 img.length ic5), (.slice la6 l.length lc7), (.bool mn8)].toArray 71 (0, 0)), kU64.row ia4 ic5 img, kWr.row la6 lc7 l] := by cases ex9; exact hs11
 have := hok10.many
 refine W.region ?_
 refine zR 3 ?_
 rcases Bool.eq_false_or_eq_true (decide (at_ < 0)) with h13 | h13
 ·
  have h13p := of_decide_eq_true h13
  refine zS 9 h13 ?_
  refine zS 8 h13 ?_
  refine zE 8 ?_
  have hs14 : St B w l0 w [refA (ptr b) img l] := ref_close (l := l) (ia := ia4) (ic := ic5) (la := la6) (lc := lc7) (many := mn8) hok10 hs12
  refine hK3 _ _ ?_
  refine W.cond_true true (by kernel_rfl) rfl ?_
  refine W.sr fun K15 hK15 => ?_
  refine zE 1 (hK15 _ _ ?_)
  refine W.ret (ret_seq ?_)
  have e1_ : (vwrite img l at_ x_).1 = 8 := by first | (exfalso; omega) | (simp only [vwrite]; rw [if_pos (by omega)]) | (simp only [vwrite]; rw [if_neg (by omega), if_pos (by assumption)]) | (simp only [vwrite]; rw [if_neg (by omega), if_neg (by assumption)])
  have e2_ : (vwrite img l at_ x_).2 = l := by first | (exfalso; omega) | (simp only [vwrite]; rw [if_pos (by omega)]) | (simp only [vwrite]; rw [if_neg (by omega), if_pos (by assumption)]) | (simp only [vwrite]; rw [if_neg (by omega), if_neg (by assumption)])
  refine ret_of (.int .i64 8) (by kernel_rfl) ⟨_, ⟨by rw [e1_], by rw [e2_]⟩, hs14⟩
 ·
  have h13p := of_decide_eq_false h13
  refine zS 9 h13 ?_
  refine zS 8 h13 ?_
  refine zR 4 ?_
  refine zL ⟨b, 0, none⟩ (.slice ia4 img.length ic5) (hs12.cellAt 0 rfl rfl) ?_
  refine zE 3 ?_
  have hs16 : St B w l0 w [refA (ptr b) img l] := ref_close (l := l) (ia := ia4) (ic := ic5) (la := la6) (lc := lc7) (many := mn8) hok10 hs12
  refine hK3 _ _ ?_
  refine W.cond (decide (at_ ≥ (img.length : Int))) (by kernel_rfl) (fun h17 => ?_) (fun h17 => ?_)
  ·
   have h17p := of_decide_eq_true h17
   refine W.sr fun K18 hK18 => ?_
   refine zE 1 (hK18 _ _ ?_)
   refine W.ret (ret_seq ?_)
   have e1_ : (vwrite img l at_ x_).1 = 8 := by first | (exfalso; omega) | (simp only [vwrite]; rw [if_pos (by omega)]) | (simp only [vwrite]; rw [if_neg (by omega), if_pos (by assumption)]) | (simp only [vwrite]; rw [if_neg (by omega), if_neg (by assumption)])
   have e2_ : (vwrite img l at_ x_).2 = l := by first | (exfalso; omega) | (simp only [vwrite]; rw [if_pos (by omega)]) | (simp only [vwrite]; rw [if_neg (by omega), if_pos (by assumption)]) | (simp only [vwrite]; rw [if_neg (by omega), if_neg (by assumption)])
   refine ret_of (.int .i64 8) (by kernel_rfl) ⟨_, ⟨by rw [e1_], by rw [e2_]⟩, hs16⟩
  ·
   have h17p := of_decide_eq_false h17
   refine W.skip ?_
   refine hK2 _ _ ?_
   refine W.seq fun K19 hK19 => ?_
   refine W.sr fun K20 hK20 => ?_
   refine zR 2 ?_
   refine zC00 hs16 (rget_spec (at_ := at_) (hv := (hs16.entAt 0 rfl refA_at)) B _) fun w21 hs23 => ?_
   refine zE 2 (hK20 _ _ ?_)
   refine W.cond (decide ((vget img l at_) = x_)) (by kernel_rfl) (fun h24 => ?_) (fun h24 => ?_)
   ·
    have h24p := of_decide_eq_true h24
    refine W.sr fun K25 hK25 => ?_
    refine zE 1 (hK25 _ _ ?_)
    refine W.ret (ret_seq ?_)
    have e1_ : (vwrite img l at_ x_).1 = 0 := by first | (exfalso; omega) | (simp only [vwrite]; rw [if_pos (by omega)]) | (simp only [vwrite]; rw [if_neg (by omega), if_pos (by assumption)]) | (simp only [vwrite]; rw [if_neg (by omega), if_neg (by assumption)])
    have e2_ : (vwrite img l at_ x_).2 = l := by first | (exfalso; omega) | (simp only [vwrite]; rw [if_pos (by omega)]) | (simp only [vwrite]; rw [if_neg (by omega), if_pos (by assumption)]) | (simp only [vwrite]; rw [if_neg (by omega), if_neg (by assumption)])
    refine ret_of (.int .i64 0) (by kernel_rfl) ⟨_, ⟨by rw [e1_], by rw [e2_]⟩, hs23⟩
   ·
    have h24p := of_decide_eq_false h24
    refine W.skip ?_
    refine hK19 _ _ ?_
    refine W.sr fun K26 hK26 => ?_
    refine zR 3 ?_
    refine zC11 hs23 (rput_spec (p := (.pointer (some ⟨b, 0, none⟩))) (img := img) (l := l) (at_ := at_) (x_ := x_) B _) fun w27 hs29 => ?_
    refine zE 1 (hK26 _ _ ?_)
    refine W.ret ?_
    have e1_ : (vwrite img l at_ x_).1 = (vput img l at_ x_).1 := by first | (exfalso; omega) | (simp only [vwrite]; rw [if_pos (by omega)]) | (simp only [vwrite]; rw [if_neg (by omega), if_pos (by assumption)]) | (simp only [vwrite]; rw [if_neg (by omega), if_neg (by assumption)])
    have e2_ : (vwrite img l at_ x_).2 = (vput img l at_ x_).2 := by first | (exfalso; omega) | (simp only [vwrite]; rw [if_pos (by omega)]) | (simp only [vwrite]; rw [if_neg (by omega), if_pos (by assumption)]) | (simp only [vwrite]; rw [if_neg (by omega), if_neg (by assumption)])
    refine ret_of (.int .i64 ((vput img l at_ x_).1)) (by kernel_rfl) ⟨_, ⟨by rw [e1_], by rw [e2_]⟩, hs29⟩

theorem rall_spec {b : Nat} {img : List Int} {l : List (Int × Int)} {at_ : Int} {la : Option Addr} {n lc : Nat} {ws : List Int} (B : Nat) (w : World) (hn : n = ws.length) (hsz : ws.length ≤ 1000000) (hat : -1 ≤ at_ ∧ at_ ≤ 1000000) : Spec Tryd.prog 110 #[(.pointer (some ⟨b, 0, none⟩)), (.int .i64 at_), (.slice la n lc)] B w [refA (ptr b) img l, kU64.row la lc ws] (fun v H' => v = .int .i64 (vwrites img at_ l 0 ws).1 ∧ H' = [refA (ptr b) img (vwrites img at_ l 0 ws).2]) := by
 refine spec_W Tryd.func110 rfl fun l0 hs => ?_
 subst hn
 refine W.sr fun K1 hK1 => ?_
 refine zE 1 (hK1 _ _ ?_)
 refine W.seq fun K2 hK2 => ?_
 refine W.sr fun K3 hK3 => ?_
 refine zE 1 (hK3 _ _ ?_)
 refine W.block ?_
 refine W.loop (G := Nat × List (Int × Int)) (fun | (k, m), s_, w_ => (∃ us, s_ = slots 27 [(0, (.pointer (some ⟨b, 0, none⟩))), (1, (.int .i64 at_)), (2, (.slice la ws.length lc)), (7, (.int .i64 (k : Int)))] us) ∧ St B w l0 w_ [refA (ptr b) img m, kU64.row la lc ws] ∧ (k ≤ ws.length) ∧ (vwrites img at_ l 0 ws = vwrites img at_ m (k : Int) (ws.drop k))) (fun | (k, m) => ws.length - k) (0, l) ⟨slots_intro _ (by kernel_rfl), hs, Nat.zero_le _, rfl⟩ ?_
 rintro ⟨k, m⟩ _ w4 ⟨⟨us, rfl⟩, hs5, hk_, hkm⟩
 refine W.seq fun K6 hK6 => ?_
 refine W.sr fun K7 hK7 => ?_
 refine zE 4 (hK7 _ _ ?_)
 refine W.cond (decide ((k : Int) < (ws.length : Int))) (by kernel_rfl) (fun h8 => ?_) (fun h8 => ?_)
 ·
  have h8p := of_decide_eq_true h8
  refine W.skip ?_
  refine hK6 _ _ ?_
  refine W.seq fun K9 hK9 => ?_
  refine W.block ?_
  refine W.sr fun K10 hK10 => ?_
  refine zR 3 ?_
  refine zI (at_ + (k : Int)) (wrap_i64 (by omega) (by omega)) ?_
  refine zR 2 ?_
  have hk11 : k < ws.length := by omega
  refine ops_R (runs_index (a := la) (n := ws.length) (z := (k : Int)) (size := 1) k rfl hk11 (kU64.addr (St.kcells kU64 hs5 1 rfl) hk11) (by kernel_rfl)) ?_
  refine zL ((adr la (k * 1)).add 0) (.int .u64 (ws.getD k 0)) (kU64.at (St.kcells kU64 hs5 1 rfl) hk11 0 0 rfl) ?_
  refine zC11 hs5 (rset_spec (b := b) (img := img) (l := m) (at_ := (at_ + (k : Int))) (x_ := (ws.getD k 0)) B _) fun w12 hs14 => ?_
  refine zE 1 (hK10 _ _ ?_)
  refine W.sr fun K15 hK15 => ?_
  refine zE 2 (hK15 _ _ ?_)
  refine W.cond (!decide ((vwrite img m (at_ + (k : Int)) (ws.getD k 0)).1 = 0)) (by kernel_rfl) (fun h16 => ?_) (fun h16 => ?_)
  ·
   have h16p : ¬ ((vwrite img m (at_ + (k : Int)) (ws.getD k 0)).1 = 0) := of_decide_eq_false (bnot_true h16)
   refine W.sr fun K17 hK17 => ?_
   refine zE 2 (hK17 _ _ ?_)
   refine W.ret (ret_block (ret_seq (ret_seq (ret_block (ret_seq ?_)))))
   have hs18 := St.tk1 hs14
   have e_ : vwrites img at_ l 0 ws = vwrite img m (at_ + (k : Int)) (ws.getD k 0) := hkm.trans ((vwrites_step (by omega)).trans (if_neg (by assumption)))
   refine ret_of (.int .i64 ((vwrite img m (at_ + (k : Int)) (ws.getD k 0)).1)) (by kernel_rfl) ⟨_, ⟨by rw [e_], by rw [e_]⟩, hs18⟩
  ·
   have h16p : (vwrite img m (at_ + (k : Int)) (ws.getD k 0)).1 = 0 := of_decide_eq_true (bnot_false h16)
   refine W.skip ?_
   refine normal_block ?_
   refine hK9 _ _ ?_
   refine W.region ?_
   refine zR 1 ?_
   refine ops_val (v := .int .i64 (IntKind.i64.wrap ((k : Int) + 1))) (v' := .int .i64 ((k + 1 : Nat) : Int)) (by kernel_rfl) (congrArg (Value.int .i64) (wrap_i64 (by omega) (by omega))) ?_
   refine zE 1 ?_
   have e0_ : (vwrite img m (at_ + (k : Int)) (ws.getD k 0)).1 = 0 := by assumption
   have hk2 := (vwrites_step (img := img) (at_ := at_) (m := m) (ws := ws) (k := k) (by omega)).trans (if_pos e0_)
   exact ⟨(k + 1, (vwrite img m (at_ + (k : Int)) (ws.getD k 0)).2), ⟨slots_intro _ (by kernel_rfl), hs14, by omega, hkm.trans hk2⟩, by first | omega | (dsimp only; omega)⟩
 ·
  have h8p := of_decide_eq_false h8
  refine W.exit (exit_seq (exit_seq (exit_here ?_)))
  refine hK2 _ _ ?_
  refine W.sr fun K19 hK19 => ?_
  refine zE 1 (hK19 _ _ ?_)
  refine W.ret ?_
  have hs20 := St.tk1 hs5
  have e_ : vwrites img at_ l 0 ws = (0, m) := hkm.trans (by rw [List.drop_of_length_le (by omega)]; rfl)
  refine ret_of (.int .i64 0) (by kernel_rfl) ⟨_, ⟨by rw [e_], by rw [e_]⟩, hs20⟩

end Go.Proofs.YthimamnblklkbaaDoor

set_option linter.unusedVariables false
set_option maxRecDepth 20000
set_option maxHeartbeats 1000000
namespace Go.Proofs.YthimamnblklkbaaDoor
open Go Go.RowKit
set_option linter.unusedSimpArgs false
set_option linter.unusedVariables false

def unpack_B0 (ws : List Int) (n_ : Int) (k18 : ((List Int) × Int) → Option (ByteArray × Int)) (q16 : List Int) (p17 : Int) : Option (ByteArray × Int) :=
 if p17 < (n_.toNat : Int) then (need (-9223372036854775808 ≤ (p17.tdiv 8) ∧ (p17.tdiv 8) ≤ 9223372036854775807) <|
need (0 ≤ (p17.tdiv 8) ∧ (p17.tdiv 8) < (ws.length : Int)) <|
need (-9223372036854775808 ≤ (8 * p17.tmod 8) ∧ (8 * p17.tmod 8) ≤ 9223372036854775807) <|
need (0 ≤ (8 * p17.tmod 8)) <|
need (0 ≤ p17 ∧ p17 < (n_.toNat : Int)) <|
need (p17.toNat < q16.length) <|
need (-9223372036854775808 ≤ (p17 + 1) ∧ (p17 + 1) ≤ 9223372036854775807) <|
k18 ((q16.set p17.toNat ((shrK .u64 (ws.getD ((p17.tdiv 8).toNat) 0) (8 * p17.tmod 8)) % 256)), (p17 + 1))) else (need (n_.toNat = q16.length) <|
some ((strOfNums q16), 0))

def unpack_M (ws : List Int) (n_ : Int) : Option (ByteArray × Int) :=
 if n_ < 0 then (some (ByteArray.empty, 1)) else (need (-9223372036854775808 ≤ (8 * (ws.length : Int)) ∧ (8 * (ws.length : Int)) ≤ 9223372036854775807) <|
if n_ > (8 * (ws.length : Int)) then (some (ByteArray.empty, 1)) else (need (n_ ≤ 1000000000) <|
iter (fun k_ s_ => unpack_B0 ws n_ k_ s_.1 s_.2) FUEL ((List.replicate n_.toNat (0 : Int)), 0)))

theorem unpack_walk {ws : List Int} {n_ : Int} {wa : Option Addr} {wc : Nat} {r : ByteArray × Int} (B : Nat) (w : World) (hw : CellsAt wa (kU64.cells ws) w) (hm : unpack_M ws n_ = some r) : Spec Tryd.prog 102 #[(.slice wa ws.length wc), (.int .i64 n_)] B w [] (fun v H' => v = .tuple #[.string r.1, .int .i64 r.2] ∧ H' = []) := by
 refine spec_Q Tryd.func102 rfl fun hs => ?_
 unfold unpack_M at hm
 refine W.sr fun K1 hK1 => ?_
 refine zE 2 (hK1 _ _ ?_)
 refine W.seq fun K2 hK2 => ?_
 refine W.sr fun K3 hK3 => ?_
 refine zR 3 ?_
 rcases Bool.eq_false_or_eq_true (decide (n_ < 0)) with h4 | h4
 ·
  obtain ⟨h4p, hm⟩ := iY hm h4
  refine zS 10 h4 ?_
  refine zS 9 h4 ?_
  refine zE 6 (hK3 _ _ ?_)
  refine W.cond_true true (by kernel_rfl) rfl ?_
  refine W.sr fun K5 hK5 => ?_
  refine zE 2 (hK5 _ _ ?_)
  refine W.ret (ret_seq ?_)
  obtain rfl := some_inj hm
  refine ret_of (.tuple #[(.string ByteArray.empty), (.int .i64 1)]) (by kernel_rfl) ⟨_, ⟨rfl, rfl⟩, hs⟩
 ·
  obtain ⟨h4p, hm⟩ := iN hm h4
  refine zS 10 h4 ?_
  refine zS 9 h4 ?_
  refine zR 3 ?_
  obtain ⟨h6, hm⟩ := need_some hm
  refine zI _ (wrap_i64 h6.1 h6.2) ?_
  refine zE 2 (hK3 _ _ ?_)
  refine W.cond (decide (n_ > (8 * (ws.length : Int)))) (by kernel_rfl) (fun h7 => ?_) (fun h7 => ?_)
  ·
   obtain ⟨h7p, hm⟩ := iY hm h7
   refine W.sr fun K8 hK8 => ?_
   refine zE 2 (hK8 _ _ ?_)
   refine W.ret (ret_seq ?_)
   obtain rfl := some_inj hm
   refine ret_of (.tuple #[(.string ByteArray.empty), (.int .i64 1)]) (by kernel_rfl) ⟨_, ⟨rfl, rfl⟩, hs⟩
  ·
   obtain ⟨h7p, hm⟩ := iN hm h7
   refine W.skip ?_
   refine hK2 _ _ ?_
   refine W.sr fun K9 hK9 => ?_
   refine zR 1 ?_
   obtain ⟨h13, hm⟩ := need_some hm
   refine ops_makeSlice kU8 0 (z := n_) (bytes := 1) n_.toNat (nat_of (by omega)) hs (by kernel_rfl) (by omega) (by unfold maxLen; omega) (fun b10 w11 hs12 => ?_)
   refine zE 1 (hK9 _ _ ?_)
   refine W.seq fun K14 hK14 => ?_
   refine W.sr fun K15 hK15 => ?_
   refine zE 3 (hK15 _ _ ?_)
   refine W.block ?_
   refine W.loop_iter (G := (List Int) × Int) (σ := (List Int) × Int) (fun | (q16, p17) => (q16, p17)) (fun | (q16, p17), s_, w_ => (∃ us, s_ = slots 40 [(0, (.slice wa ws.length wc)), (6, (.slice (some ⟨b10, 0, none⟩) n_.toNat n_.toNat)), (20, (.int .i64 (n_.toNat : Int))), (21, (.int .i64 p17))] us) ∧ St B w [] w_ [kU8.row (some ⟨b10, 0, none⟩) n_.toNat q16]) ((List.replicate n_.toNat (0 : Int)), 0) ⟨slots_intro _ (by kernel_rfl), hs12⟩ hm ?_
   rintro k18 ih19 ⟨q16, p17⟩ _ w20 ⟨⟨us, rfl⟩, hs21⟩ hm
   replace hm : unpack_B0 ws n_ k18 q16 p17 = some r := hm
   unfold unpack_B0 at hm
   refine W.sr fun K22 hK22 => ?_
   refine zE 1 (hK22 _ _ ?_)
   refine W.seq fun K23 hK23 => ?_
   refine W.cond (decide (p17 < (n_.toNat : Int))) (by kernel_rfl) (fun h24 => ?_) (fun h24 => ?_)
   ·
    obtain ⟨h24p, hm⟩ := iY hm h24
    refine W.skip ?_
    refine hK23 _ _ ?_
    refine W.seq fun K25 hK25 => ?_
    refine W.block ?_
    refine W.sr fun K26 hK26 => ?_
    refine zE 2 (hK26 _ _ ?_)
    refine W.region ?_
    refine zR 4 ?_
    obtain ⟨h27, hm⟩ := need_some hm
    refine ops_R (v := .int .i64 (p17.tdiv 8)) (runs_quo (k := .i64) (a := p17) (b := 8) (by kernel_rfl) (by decide) (wrap_i64 h27.1 h27.2)) ?_
    obtain ⟨h29, hm⟩ := need_some hm
    have hk28 := lt_toNat h29
    refine ops_R (runs_index (a := wa) (n := ws.length) (z := (p17.tdiv 8)) (size := 1) ((p17.tdiv 8).toNat) (nat_of h29.1) hk28 (kU64.addr (hs21.oldCells hw) hk28) (by kernel_rfl)) ?_
    refine zL ((adr wa (((p17.tdiv 8).toNat) * 1)).add 0) (.int .u64 (ws.getD ((p17.tdiv 8).toNat) 0)) (kU64.at (hs21.oldCells hw) hk28 0 0 rfl) ?_
    refine zR 2 ?_
    obtain ⟨h30, hm⟩ := need_some hm
    refine zI _ (wrap_i64 h30.1 h30.2) ?_
    obtain ⟨h31, hm⟩ := need_some hm
    refine ops_R (v := .int .u64 (shrK .u64 (ws.getD ((p17.tdiv 8).toNat) 0) (8 * p17.tmod 8))) (runs_shift (b := false) (k := .u64) (x := (ws.getD ((p17.tdiv 8).toNat) 0)) (y := (8 * p17.tmod 8)) (by kernel_rfl) h31) ?_
    refine ops_val (v := .int .u8 (IntKind.u8.wrap (shrK .u64 (ws.getD ((p17.tdiv 8).toNat) 0) (8 * p17.tmod 8)))) (v' := .int .u8 ((shrK .u64 (ws.getD ((p17.tdiv 8).toNat) 0) (8 * p17.tmod 8)) % 256)) (by kernel_rfl) (congrArg (Value.int .u8) (wrap_u8_mod _)) ?_
    obtain ⟨h33, hm⟩ := need_some hm
    have hk32 := lt_toNat h33
    obtain ⟨h35, hm⟩ := need_some hm
    have hk34 := h35
    refine ops_R (runs_index (a := (some ⟨b10, 0, none⟩)) (n := n_.toNat) (z := p17) (size := 1) p17.toNat (nat_of h33.1) hk32 (kU8.addr (St.kcells kU8 hs21 0 rfl) hk34) (by kernel_rfl)) ?_
    refine ops_storeK kU8 (j := 0) (vs := [(.int .u8 ((shrK .u64 (ws.getD ((p17.tdiv 8).toNat) 0) (8 * p17.tmod 8)) % 256))]) 0 ((shrK .u64 (ws.getD ((p17.tdiv 8).toNat) 0) (8 * p17.tmod 8)) % 256) hs21 hk34 (Nat.le_of_ble_eq_true rfl) (by simp) rfl rfl (by kernel_rfl) (fun w36 hs37 => ?_)
    refine zD ?_
    refine normal_block ?_
    refine hK25 _ _ ?_
    refine W.region ?_
    obtain ⟨h39, hm⟩ := need_some hm
    refine zI _ (wrap_i64 h39.1 h39.2) ?_
    refine zE 1 ?_
    refine loopAt_next ?_
    exact ih19 ((q16.set p17.toNat ((shrK .u64 (ws.getD ((p17.tdiv 8).toNat) 0) (8 * p17.tmod 8)) % 256)), (p17 + 1)) _ _ ⟨slots_intro _ (by kernel_rfl), hs37⟩ hm
   ·
    obtain ⟨h24p, hm⟩ := iN hm h24
    refine W.exit (exit_seq (exit_seq (exit_here ?_)))
    refine hK14 _ _ ?_
    refine W.sr fun K40 hK40 => ?_
    refine zR 1 ?_
    obtain ⟨h41, hm⟩ := need_some hm
    refine ops_R (runs_bytesStr (a := (some ⟨b10, 0, none⟩)) (n := n_.toNat) (c := n_.toNat) (xs := q16) (St.kcells kU8 hs21 0 rfl) h41 (by kernel_rfl)) ?_
    refine zE 2 (hK40 _ _ ?_)
    refine W.ret ?_
    obtain rfl := some_inj hm
    have hs42 := St.tk0 hs21
    refine ret_of (.tuple #[(.string (strOfNums q16)), (.int .i64 0)]) (by kernel_rfl) ⟨_, ⟨rfl, rfl⟩, hs42⟩

def runpack_B0 (ws : List Int) (n_ : Int) (k16 : ((List Int) × Int) → Option (ByteArray × Int)) (q14 : List Int) (p15 : Int) : Option (ByteArray × Int) :=
 if p15 < n_ then (need (-9223372036854775808 ≤ (p15.tdiv 8) ∧ (p15.tdiv 8) ≤ 9223372036854775807) <|
need (0 ≤ (p15.tdiv 8) ∧ (p15.tdiv 8) < (ws.length : Int)) <|
need (-9223372036854775808 ≤ (8 * p15.tmod 8) ∧ (8 * p15.tmod 8) ≤ 9223372036854775807) <|
need (0 ≤ (8 * p15.tmod 8) ∧ (8 * p15.tmod 8) ≤ 18446744073709551615) <|
need (0 ≤ (8 * p15.tmod 8)) <|
need (q14.length + 1 ≤ 1000000000) <|
need (-9223372036854775808 ≤ (p15 + 1) ∧ (p15 + 1) ≤ 9223372036854775807) <|
k16 ((q14 ++ [((shrK .u64 (ws.getD ((p15.tdiv 8).toNat) 0) (8 * p15.tmod 8)) % 256)]), (p15 + 1))) else (some ((strOfNums q14), 0))

def runpack_M (ws : List Int) (n_ : Int) : Option (ByteArray × Int) :=
 if n_ < 0 then (some (ByteArray.empty, 1)) else (need (-9223372036854775808 ≤ (8 * (ws.length : Int)) ∧ (8 * (ws.length : Int)) ≤ 9223372036854775807) <|
if n_ > (8 * (ws.length : Int)) then (some (ByteArray.empty, 1)) else (iter (fun k_ s_ => runpack_B0 ws n_ k_ s_.1 s_.2) FUEL ([], 0)))

theorem runpack_walk {ws : List Int} {n_ : Int} {wa : Option Addr} {wc : Nat} {r : ByteArray × Int} (B : Nat) (w : World) (hw : CellsAt wa (kU64.cells ws) w) (hm : runpack_M ws n_ = some r) : Spec Tryd.prog 111 #[(.slice wa ws.length wc), (.int .i64 n_)] B w [] (fun v H' => v = .tuple #[.string r.1, .int .i64 r.2] ∧ H' = []) := by
 refine spec_Q Tryd.func111 rfl fun hs => ?_
 unfold runpack_M at hm
 refine W.sr fun K1 hK1 => ?_
 refine zE 2 (hK1 _ _ ?_)
 refine W.seq fun K2 hK2 => ?_
 refine W.sr fun K3 hK3 => ?_
 refine zR 3 ?_
 rcases Bool.eq_false_or_eq_true (decide (n_ < 0)) with h4 | h4
 ·
  obtain ⟨h4p, hm⟩ := iY hm h4
  refine zS 10 h4 ?_
  refine zS 9 h4 ?_
  refine zE 6 (hK3 _ _ ?_)
  refine W.cond_true true (by kernel_rfl) rfl ?_
  refine W.sr fun K5 hK5 => ?_
  refine zE 2 (hK5 _ _ ?_)
  refine W.ret (ret_seq ?_)
  obtain rfl := some_inj hm
  refine ret_of (.tuple #[(.string ByteArray.empty), (.int .i64 1)]) (by kernel_rfl) ⟨_, ⟨rfl, rfl⟩, hs⟩
 ·
  obtain ⟨h4p, hm⟩ := iN hm h4
  refine zS 10 h4 ?_
  refine zS 9 h4 ?_
  refine zR 3 ?_
  obtain ⟨h6, hm⟩ := need_some hm
  refine zI _ (wrap_i64 h6.1 h6.2) ?_
  refine zE 2 (hK3 _ _ ?_)
  refine W.cond (decide (n_ > (8 * (ws.length : Int)))) (by kernel_rfl) (fun h7 => ?_) (fun h7 => ?_)
  ·
   obtain ⟨h7p, hm⟩ := iY hm h7
   refine W.sr fun K8 hK8 => ?_
   refine zE 2 (hK8 _ _ ?_)
   refine W.ret (ret_seq ?_)
   obtain rfl := some_inj hm
   refine ret_of (.tuple #[(.string ByteArray.empty), (.int .i64 1)]) (by kernel_rfl) ⟨_, ⟨rfl, rfl⟩, hs⟩
  ·
   obtain ⟨h7p, hm⟩ := iN hm h7
   refine W.skip ?_
   refine hK2 _ _ ?_
   refine W.sr fun K9 hK9 => ?_
   refine zE 1 (hK9 _ _ ?_)
   refine W.seq fun K10 hK10 => ?_
   refine W.sr fun K11 hK11 => ?_
   refine zE 1 (hK11 _ _ ?_)
   refine W.block ?_
   have hs20 := St.knil kU8 hs
   refine W.loop_iter (G := (List Int) × Int × (Option Addr) × Nat) (σ := (List Int) × Int) (fun | (q14, p15, m12, m13) => (q14, p15)) (fun | (q14, p15, m12, m13), s_, w_ => (∃ us, s_ = slots 38 [(0, (.slice wa ws.length wc)), (1, (.int .i64 n_)), (6, (.slice m12 q14.length m13)), (7, (.int .i64 p15))] us) ∧ St B w [] w_ [kU8.row m12 m13 q14]) ([], 0, none, 0) ⟨slots_intro _ (by kernel_rfl), hs20⟩ hm ?_
   rintro k16 ih17 ⟨q14, p15, m12, m13⟩ _ w18 ⟨⟨us, rfl⟩, hs19⟩ hm
   replace hm : runpack_B0 ws n_ k16 q14 p15 = some r := hm
   unfold runpack_B0 at hm
   refine W.seq fun K21 hK21 => ?_
   refine W.sr fun K22 hK22 => ?_
   refine zE 3 (hK22 _ _ ?_)
   refine W.cond (decide (p15 < n_)) (by kernel_rfl) (fun h23 => ?_) (fun h23 => ?_)
   ·
    obtain ⟨h23p, hm⟩ := iY hm h23
    refine W.skip ?_
    refine hK21 _ _ ?_
    refine W.seq fun K24 hK24 => ?_
    refine W.block ?_
    refine W.region ?_
    refine zR 3 ?_
    obtain ⟨h25, hm⟩ := need_some hm
    refine ops_R (v := .int .i64 (p15.tdiv 8)) (runs_quo (k := .i64) (a := p15) (b := 8) (by kernel_rfl) (by decide) (wrap_i64 h25.1 h25.2)) ?_
    obtain ⟨h27, hm⟩ := need_some hm
    have hk26 := lt_toNat h27
    refine ops_R (runs_index (a := wa) (n := ws.length) (z := (p15.tdiv 8)) (size := 1) ((p15.tdiv 8).toNat) (nat_of h27.1) hk26 (kU64.addr (hs19.oldCells hw) hk26) (by kernel_rfl)) ?_
    refine zL ((adr wa (((p15.tdiv 8).toNat) * 1)).add 0) (.int .u64 (ws.getD ((p15.tdiv 8).toNat) 0)) (kU64.at (hs19.oldCells hw) hk26 0 0 rfl) ?_
    refine zR 2 ?_
    obtain ⟨h28, hm⟩ := need_some hm
    refine zI _ (wrap_i64 h28.1 h28.2) ?_
    obtain ⟨h29, hm⟩ := need_some hm
    refine zI _ (wrap_u64 h29.1 (Int.lt_of_le_of_lt h29.2 (by decide))) ?_
    obtain ⟨h30, hm⟩ := need_some hm
    refine ops_R (v := .int .u64 (shrK .u64 (ws.getD ((p15.tdiv 8).toNat) 0) (8 * p15.tmod 8))) (runs_shift (b := false) (k := .u64) (x := (ws.getD ((p15.tdiv 8).toNat) 0)) (y := (8 * p15.tmod 8)) (by kernel_rfl) h30) ?_
    refine ops_val (v := .int .u8 (IntKind.u8.wrap (shrK .u64 (ws.getD ((p15.tdiv 8).toNat) 0) (8 * p15.tmod 8)))) (v' := .int .u8 ((shrK .u64 (ws.getD ((p15.tdiv 8).toNat) 0) (8 * p15.tmod 8)) % 256)) (by kernel_rfl) (congrArg (Value.int .u8) (wrap_u8_mod _)) ?_
    refine ops_new (fun b => .slice (some ⟨b, 0, none⟩) 1 1) (.cells [(.int .u8 ((shrK .u64 (ws.getD ((p15.tdiv 8).toNat) 0) (8 * p15.tmod 8)) % 256))].toArray 5 (0, 0)) hs19 (by kernel_rfl) (fun b33 w31 hs32 => ?_)
    have hs34 := St.f1 hs32
    obtain ⟨h39, hm⟩ := need_some hm
    refine ops_appendK kU8 (bytes := 1) (a' := (some ⟨b33, 0, none⟩)) (c' := 1) (l := q14) (m := [((shrK .u64 (ws.getD ((p15.tdiv 8).toNat) 0) (8 * p15.tmod 8)) % 256)]) hs34 (by kernel_rfl) (by simp) (cells_blk (hs34.heapAt 1 rfl)) (by unfold maxLen; (try simp only [List.length_cons, List.length_nil]); omega) (by (try simp only [List.length_cons, List.length_nil]); omega) (fun a35 c36 w37 hs38 => ?_)
    refine zE 1 ?_
    refine normal_block ?_
    refine hK24 _ _ ?_
    refine W.region ?_
    refine zR 1 ?_
    obtain ⟨h40, hm⟩ := need_some hm
    refine zI _ (wrap_i64 h40.1 h40.2) ?_
    refine zE 1 ?_
    have hs41 := St.tk1 hs38
    refine loopAt_next ?_
    exact ih17 ((q14 ++ [((shrK .u64 (ws.getD ((p15.tdiv 8).toNat) 0) (8 * p15.tmod 8)) % 256)]), (p15 + 1), a35, c36) _ _ ⟨slots_intro _ (by kernel_rfl), hs41⟩ hm
   ·
    obtain ⟨h23p, hm⟩ := iN hm h23
    refine W.exit (exit_seq (exit_seq (exit_here ?_)))
    refine hK10 _ _ ?_
    refine W.sr fun K42 hK42 => ?_
    refine zR 1 ?_
    refine ops_R (runs_bytesStr (a := m12) (n := q14.length) (c := m13) (xs := q14) (St.kcells kU8 hs19 0 rfl) rfl (by kernel_rfl)) ?_
    refine zE 2 (hK42 _ _ ?_)
    refine W.ret ?_
    obtain rfl := some_inj hm
    have hs43 := St.tk0 hs19
    refine ret_of (.tuple #[(.string (strOfNums q14)), (.int .i64 0)]) (by kernel_rfl) ⟨_, ⟨rfl, rfl⟩, hs43⟩

end Go.Proofs.YthimamnblklkbaaDoor

set_option linter.unusedVariables false
set_option maxRecDepth 20000
set_option maxHeartbeats 2000000
namespace Go.Proofs.YthimamnblklkbaaDoor
open Go Go.RowKit
set_option linter.unusedSimpArgs false
set_option linter.unusedVariables false

def ssess_M (img : List Int) (i_ : Int) : Option (Int × Int) :=
 if (sessAt i_) < 0 then (some (0, 1)) else (need (-9223372036854775808 ≤ ((sessAt i_) + 64) ∧ ((sessAt i_) + 64) ≤ 9223372036854775807) <|
if (img.length : Int) < ((sessAt i_) + 64) then (some (0, 8)) else (some ((sessAt i_), 0)))

theorem ssess_walk {img : List Int} {l : List (Int × Int)} {i_ : Int} {vb : Nat} {r : Int × Int} (B : Nat) (w : World) (hL : CellsAt (some ⟨1, 0, none⟩) [(.int .i64 1), (.int .i64 2), (.int .i64 2)] w) (hv : ViewAt (ptr vb) img l w) (hm : ssess_M img i_ = some r) : Spec Tryd.prog 100 #[(.pointer (some ⟨vb, 0, none⟩)), (.int .i64 i_)] B w [] (fun v H' => v = (.tuple #[(.int .i64 r.1), (.int .i64 r.2)]) ∧ H' = []) := by
 refine spec_Q Tryd.func100 rfl fun hs => ?_
 unfold ssess_M at hm
 refine W.sr fun K1 hK1 => ?_
 refine zE 2 (hK1 _ _ ?_)
 refine W.sr fun K2 hK2 => ?_
 refine zR 1 ?_
 refine zC00 hs (sess_spec (i_ := i_) (hL := (hs.oldCells hL)) B _) fun w3 hs5 => ?_
 refine zE 1 (hK2 _ _ ?_)
 refine W.seq fun K6 hK6 => ?_
 refine W.block ?_
 refine W.sr fun K7 hK7 => ?_
 refine zE 3 (hK7 _ _ ?_)
 refine W.cond_false false (by kernel_rfl) rfl ?_
 refine W.sr fun K8 hK8 => ?_
 refine zE 3 (hK8 _ _ ?_)
 refine W.cond (decide ((sessAt i_) < 0)) (by kernel_rfl) (fun h9 => ?_) (fun h9 => ?_)
 ·
  obtain ⟨h9p, hm⟩ := iY hm h9
  refine W.sr fun K10 hK10 => ?_
  refine zE 2 (hK10 _ _ ?_)
  refine W.ret (ret_block (ret_seq ?_))
  obtain rfl := some_inj hm
  refine ret_of (.tuple #[(.int .i64 0), (.int .i64 1)]) (by kernel_rfl) ⟨_, ⟨rfl, rfl⟩, hs5⟩
 ·
  obtain ⟨h9p, hm⟩ := iN hm h9
  refine W.sr fun K11 hK11 => ?_
  refine zR 1 ?_
  refine zC00 hs5 (len_spec (hv := (viewAt_old hs5 hv)) B _) fun w12 hs14 => ?_
  refine zR 1 ?_
  obtain ⟨h15, hm⟩ := need_some hm
  refine zI _ (wrap_i64 h15.1 h15.2) ?_
  refine zE 2 (hK11 _ _ ?_)
  refine W.cond (decide ((img.length : Int) < ((sessAt i_) + 64))) (by kernel_rfl) (fun h16 => ?_) (fun h16 => ?_)
  ·
   obtain ⟨h16p, hm⟩ := iY hm h16
   refine W.sr fun K17 hK17 => ?_
   refine zE 2 (hK17 _ _ ?_)
   refine W.ret (ret_block (ret_seq ?_))
   obtain rfl := some_inj hm
   refine ret_of (.tuple #[(.int .i64 0), (.int .i64 8)]) (by kernel_rfl) ⟨_, ⟨rfl, rfl⟩, hs14⟩
  ·
   obtain ⟨h16p, hm⟩ := iN hm h16
   refine W.skip ?_
   refine normal_block ?_
   refine hK6 _ _ ?_
   refine W.sr fun K18 hK18 => ?_
   refine zE 3 (hK18 _ _ ?_)
   refine W.ret ?_
   obtain rfl := some_inj hm
   refine ret_of (.tuple #[(.int .i64 (sessAt i_)), (.int .i64 0)]) (by kernel_rfl) ⟨_, ⟨rfl, rfl⟩, hs14⟩

theorem ssess_nil {i_ : Int} (B : Nat) (w : World) (hL : CellsAt (some ⟨1, 0, none⟩) [(.int .i64 1), (.int .i64 2), (.int .i64 2)] w) : Spec Tryd.prog 100 #[(.pointer none), (.int .i64 i_)] B w [] (fun v H' => v = (.tuple #[(.int .i64 0), (.int .i64 2)]) ∧ H' = []) := by
 refine spec_Q Tryd.func100 rfl fun hs => ?_
 refine W.sr fun K1 hK1 => ?_
 refine zE 2 (hK1 _ _ ?_)
 refine W.sr fun K2 hK2 => ?_
 refine zR 1 ?_
 refine zC00 hs (sess_spec (i_ := i_) (hL := (hs.oldCells hL)) B _) fun w3 hs5 => ?_
 refine zE 1 (hK2 _ _ ?_)
 refine W.seq fun K6 hK6 => ?_
 refine W.block ?_
 refine W.sr fun K7 hK7 => ?_
 refine zE 3 (hK7 _ _ ?_)
 refine W.cond_true true (by kernel_rfl) rfl ?_
 refine W.sr fun K8 hK8 => ?_
 refine zE 2 (hK8 _ _ ?_)
 refine W.ret (ret_block (ret_seq ?_))
 refine ret_of (.tuple #[(.int .i64 0), (.int .i64 2)]) (by kernel_rfl) ⟨_, ⟨rfl, rfl⟩, hs5⟩

end Go.Proofs.YthimamnblklkbaaDoor

namespace Go.Proofs.YthimamnblklkbaaDoor
open Go Go.RowKit
def vsets (img : List Int) : List (Int × Int) → List (Int × Int) → Int × List (Int × Int)
  | l, [] => (0, l)
  | l, x :: xs => if (vwrite img l x.1 x.2).1 = 0 then vsets img (vwrite img l x.1 x.2).2 xs else vwrite img l x.1 x.2
theorem vsets_step {img : List Int} {m xs : List (Int × Int)} {k : Nat} (hk : k < xs.length) :
    vsets img m (xs.drop k) = if (vwrite img m (xs.getD k (0, 0)).1 (xs.getD k (0, 0)).2).1 = 0 then vsets img (vwrite img m (xs.getD k (0, 0)).1 (xs.getD k (0, 0)).2).2 (xs.drop (k + 1)) else vwrite img m (xs.getD k (0, 0)).1 (xs.getD k (0, 0)).2 := by
  have e : xs.drop k = xs.getD k (0, 0) :: xs.drop (k + 1) := by
    rw [List.drop_eq_getElem_cons hk]
    simp [hk]
  rw [e]
  rfl
end Go.Proofs.YthimamnblklkbaaDoor

set_option maxRecDepth 20000
namespace Go.Proofs.YthimamnblklkbaaDoor
open Go Go.RowKit
set_option linter.unusedSimpArgs false
set_option linter.unusedVariables false

theorem word_spec {at_ x_ : Int} (B : Nat) (w : World) : Spec Tryd.prog 104 #[(.int .i64 at_), (.int .u64 x_)] B w [] (fun v H' => ∃ b1 b2, v = (.func (.func 144) #[] #[(.pointer (some ⟨b1, 0, none⟩)), (.pointer (some ⟨b2, 0, none⟩))]) ∧ H' = [blk b1 (.cells [(.int .i64 at_)].toArray 3 (0, 0)), blk b2 (.cells [(.int .u64 x_)].toArray 38 (0, 0))]) := by
 refine spec_Q Tryd.func104 rfl fun hs => ?_
 refine W.sr fun K1 hK1 => ?_
 refine zN [(.int .i64 at_)] 3 hs fun b4 w2 hs3 => ?_
 refine zN [(.int .u64 x_)] 38 hs3 fun b7 w5 hs6 => ?_
 refine zE 1 (hK1 _ _ ?_)
 refine W.sr fun K8 hK8 => ?_
 refine zE 2 (hK8 _ _ ?_)
 refine W.ret ?_
 have hs9 := St.f1 hs6
 refine ret_of (.func (.func 144) #[] #[(.pointer (some ⟨b4, 0, none⟩)), (.pointer (some ⟨b7, 0, none⟩))]) (by kernel_rfl) ⟨_, ⟨b4, b7, rfl, rfl⟩, hs9⟩

theorem word1_spec {b : Nat} {img : List Int} {l : List (Int × Int)} {b1 b2 : Nat} {at_ x_ : Int} (B : Nat) (w : World) (h1 : w.heap[b1]? = some (.cells [(.int .i64 at_)].toArray 3 (0, 0))) (h2 : w.heap[b2]? = some (.cells [(.int .u64 x_)].toArray 38 (0, 0))) : Spec Tryd.prog 144 #[(.pointer (some ⟨b, 0, none⟩)), (.pointer (some ⟨b1, 0, none⟩)), (.pointer (some ⟨b2, 0, none⟩))] B w [viewA (ptr b) img l] (fun v H' => v = .int .i64 (vwrite img l at_ x_).1 ∧ H' = [viewA (ptr b) img (vwrite img l at_ x_).2]) := by
 refine spec_W Tryd.func144 rfl fun l0 hs => ?_
 refine W.sr fun K1 hK1 => ?_
 refine zE 1 (hK1 _ _ ?_)
 refine W.sr fun K2 hK2 => ?_
 refine zR 1 ?_
 refine zL ⟨b1, 0, none⟩ (.int .i64 at_) (cell_of_blk h1 rfl) ?_
 refine zL ⟨b2, 0, none⟩ (.int .u64 x_) (cell_of_blk h2 rfl) ?_
 refine zC11 hs (sset_spec (b := b) (img := img) (l := l) (at_ := at_) (x_ := x_) B _) fun w3 hs5 => ?_
 refine zE 1 (hK2 _ _ ?_)
 refine W.ret ?_
 refine ret_of (.int .i64 ((vwrite img l at_ x_).1)) (by kernel_rfl) ⟨_, ⟨rfl, rfl⟩, hs5⟩

theorem row_spec {b : Nat} {img : List Int} {l : List (Int × Int)} {a : Option Addr} {n c : Nat} {xs : List (Int × Int)} (B : Nat) (w : World) (hn : n = xs.length) (hsz : xs.length ≤ 1000000) : Spec Tryd.prog 103 #[(.pointer (some ⟨b, 0, none⟩)), (.slice a n c)] B w [viewA (ptr b) img l, stepsA a c xs] (fun v H' => v = .int .i64 (vsets img l xs).1 ∧ H' = [viewA (ptr b) img (vsets img l xs).2]) := by
 refine spec_W Tryd.func103 rfl fun l0 hs => ?_
 obtain ⟨bs, hbs, hs1⟩ := St.steps_open (St.f1 hs)
 obtain rfl : n = bs.length := hn.trans hbs.symm
 refine W.sr fun K1 hK1 => ?_
 refine zE 1 (hK1 _ _ ?_)
 refine W.seq fun K2 hK2 => ?_
 refine W.sr fun K3 hK3 => ?_
 refine zE 3 (hK3 _ _ ?_)
 refine W.block ?_
 refine W.loop (G := Nat × List (Int × Int)) (fun | (k, m), s_, w_ => (∃ us, s_ = slots 21 [(0, (.pointer (some ⟨b, 0, none⟩))), (8, (.slice a bs.length c)), (9, (.int .i64 (bs.length : Int))), (10, (.int .i64 (k : Int)))] us) ∧ St B w l0 w_ [kStep.row a c bs, boxesA bs xs, viewA (ptr b) img m] ∧ (k ≤ xs.length) ∧ (vsets img l xs = vsets img m (xs.drop k))) (fun | (k, m) => xs.length - k) (0, l) ⟨slots_intro _ (by kernel_rfl), hs1, Nat.zero_le _, rfl⟩ ?_
 rintro ⟨k, m⟩ _ w4 ⟨⟨us, rfl⟩, hs5, hk_, hkm⟩
 refine W.sr fun K6 hK6 => ?_
 refine zE 1 (hK6 _ _ ?_)
 refine W.seq fun K7 hK7 => ?_
 refine W.cond (decide ((k : Int) < (bs.length : Int))) (by kernel_rfl) (fun h8 => ?_) (fun h8 => ?_)
 ·
  have h8p := of_decide_eq_true h8
  refine W.skip ?_
  refine hK7 _ _ ?_
  refine W.seq fun K9 hK9 => ?_
  refine W.block ?_
  refine W.sr fun K10 hK10 => ?_
  have h12 : k < bs.length := by omega
  have hk11 := h12
  refine ops_R (runs_index (a := a) (n := bs.length) (z := (k : Int)) (size := 1) k rfl hk11 (kStep.addr (St.kcells kStep hs5 0 rfl) hk11) (by kernel_rfl)) ?_
  refine zL ((adr a (k * 1)).add 0) (.func (.func 144) #[] #[(.pointer (some ⟨(bs.getD k (0, 0)).1, 0, none⟩)), (.pointer (some ⟨(bs.getD k (0, 0)).2, 0, none⟩))]) (kStep.at (St.kcells kStep hs5 0 rfl) hk11 (0, 0) 0 rfl) ?_
  refine zE 1 (hK10 _ _ ?_)
  refine W.sr fun K13 hK13 => ?_
  refine zR 2 ?_
  have hs14 := St.f2 hs5
  refine zC11 hs14 (word1_spec (b := b) (img := img) (l := m) (at_ := (xs.getD k (0, 0)).1) (x_ := (xs.getD k (0, 0)).2) (h1 := (hs5.entAt 1 rfl boxes_at k (by omega)).1) (h2 := (hs5.entAt 1 rfl boxes_at k (by omega)).2) B _) fun w15 hs17 => ?_
  refine zE 1 (hK13 _ _ ?_)
  refine W.sr fun K18 hK18 => ?_
  refine zE 2 (hK18 _ _ ?_)
  refine W.cond (!decide ((vwrite img m (xs.getD k (0, 0)).1 (xs.getD k (0, 0)).2).1 = 0)) (by kernel_rfl) (fun h19 => ?_) (fun h19 => ?_)
  ·
   have h19p : ¬ ((vwrite img m (xs.getD k (0, 0)).1 (xs.getD k (0, 0)).2).1 = 0) := of_decide_eq_false (bnot_true h19)
   refine W.sr fun K20 hK20 => ?_
   refine zE 2 (hK20 _ _ ?_)
   refine W.ret (ret_block (ret_seq (ret_seq (ret_block (ret_seq ?_)))))
   have hs21 := St.tk1 hs17
   have e_ : vsets img l xs = vwrite img m (xs.getD k (0, 0)).1 (xs.getD k (0, 0)).2 := hkm.trans ((vsets_step (by omega)).trans (if_neg (by assumption)))
   refine ret_of (.int .i64 ((vwrite img m (xs.getD k (0, 0)).1 (xs.getD k (0, 0)).2).1)) (by kernel_rfl) ⟨_, ⟨by rw [e_], by rw [e_]⟩, hs21⟩
  ·
   have h19p : (vwrite img m (xs.getD k (0, 0)).1 (xs.getD k (0, 0)).2).1 = 0 := of_decide_eq_true (bnot_false h19)
   refine W.skip ?_
   refine normal_block ?_
   refine hK9 _ _ ?_
   refine W.region ?_
   have h22 : -9223372036854775808 ≤ ((k : Int) + 1) ∧ ((k : Int) + 1) ≤ 9223372036854775807 := by omega
   refine zI _ (wrap_i64 h22.1 h22.2) ?_
   refine zE 1 ?_
   have e0_ : (vwrite img m (xs.getD k (0, 0)).1 (xs.getD k (0, 0)).2).1 = 0 := by assumption
   have hk2 := (vsets_step (img := img) (m := m) (xs := xs) (k := k) (by omega)).trans (if_pos e0_)
   have hs23 := St.f2 hs17
   have hs24 := St.f2 hs23
   exact ⟨(k + 1, (vwrite img m (xs.getD k (0, 0)).1 (xs.getD k (0, 0)).2).2), ⟨slots_intro _ (by kernel_rfl), hs24, by omega, hkm.trans hk2⟩, by first | omega | (dsimp only; omega)⟩
 ·
  have h8p := of_decide_eq_false h8
  refine W.exit (exit_seq (exit_seq (exit_here ?_)))
  refine hK2 _ _ ?_
  refine W.sr fun K25 hK25 => ?_
  refine zE 1 (hK25 _ _ ?_)
  refine W.ret ?_
  have hs26 := St.f2 hs5
  have hs27 := St.tk1 hs26
  have e_ : vsets img l xs = (0, m) := hkm.trans (by rw [List.drop_of_length_le (by omega)]; rfl)
  refine ret_of (.int .i64 0) (by kernel_rfl) ⟨_, ⟨by rw [e_], by rw [e_]⟩, hs27⟩

end Go.Proofs.YthimamnblklkbaaDoor

set_option linter.unusedVariables false
set_option maxRecDepth 20000
set_option maxHeartbeats 2000000
namespace Go.Proofs.YthimamnblklkbaaDoor
open Go Go.RowKit
set_option linter.unusedSimpArgs false
set_option linter.unusedVariables false

def sfind_M (img : List Int) (i_ : Int) (k_ : Int) : Option (Int × Int) :=
 if (slotAt i_ k_) < 0 then (some (0, 1)) else ((ssess_M img i_).bind fun r11 =>
some ((slotAt i_ k_), r11.2))

theorem sfind_walk {img : List Int} {l : List (Int × Int)} {i_ : Int} {k_ : Int} {vb : Nat} {r : Int × Int} (B : Nat) (w : World) (hL : CellsAt (some ⟨1, 0, none⟩) [(.int .i64 1), (.int .i64 2), (.int .i64 2)] w) (hv : ViewAt (ptr vb) img l w) (hm : sfind_M img i_ k_ = some r) : Spec Tryd.prog 101 #[(.pointer (some ⟨vb, 0, none⟩)), (.int .i64 i_), (.int .i64 k_)] B w [] (fun v H' => v = (.tuple #[(.int .i64 r.1), (.int .i64 r.2)]) ∧ H' = []) := by
 refine spec_Q Tryd.func101 rfl fun hs => ?_
 unfold sfind_M at hm
 refine W.sr fun K1 hK1 => ?_
 refine zE 2 (hK1 _ _ ?_)
 refine W.sr fun K2 hK2 => ?_
 refine zR 2 ?_
 refine zC00 hs (slotat_spec (i_ := i_) (k_ := k_) (hL := (hs.oldCells hL)) B _) fun w3 hs5 => ?_
 refine zE 1 (hK2 _ _ ?_)
 refine W.seq fun K6 hK6 => ?_
 refine W.sr fun K7 hK7 => ?_
 refine zE 6 (hK7 _ _ ?_)
 refine W.cond (decide ((slotAt i_ k_) < 0)) (by kernel_rfl) (fun h8 => ?_) (fun h8 => ?_)
 ·
  obtain ⟨h8p, hm⟩ := iY hm h8
  refine W.sr fun K9 hK9 => ?_
  refine zE 2 (hK9 _ _ ?_)
  refine W.ret (ret_seq ?_)
  obtain rfl := some_inj hm
  refine ret_of (.tuple #[(.int .i64 0), (.int .i64 1)]) (by kernel_rfl) ⟨_, ⟨rfl, rfl⟩, hs5⟩
 ·
  obtain ⟨h8p, hm⟩ := iN hm h8
  refine W.skip ?_
  refine hK6 _ _ ?_
  refine W.sr fun K10 hK10 => ?_
  refine zR 2 ?_
  obtain ⟨r11, h12, hm⟩ := bind_some hm
  refine zC00 hs5 (ssess_walk (i_ := i_) (img := img) (l := l) (hL := (hs5.oldCells hL)) (hv := (viewAt_old hs5 hv)) (hm := h12) B _) fun w13 hs15 => ?_
  refine zE 5 (hK10 _ _ ?_)
  refine W.sr fun K16 hK16 => ?_
  refine zE 4 (hK16 _ _ ?_)
  refine W.ret ?_
  obtain rfl := some_inj hm
  refine ret_of (.tuple #[(.int .i64 (slotAt i_ k_)), (.int .i64 r11.2)]) (by kernel_rfl) ⟨_, ⟨rfl, rfl⟩, hs15⟩

def sget_M (img : List Int) (l : List (Int × Int)) (i_ : Int) : Option (Bool × Int × Int × Int) :=
 (ssess_M img i_).bind fun r6 =>
if r6.2 = 0 then (if (vget img l r6.1) > 1 then (some (false, 0, 0, 4)) else (need (-9223372036854775808 ≤ (r6.1 + 1) ∧ (r6.1 + 1) ≤ 9223372036854775807) <|
need (-9223372036854775808 ≤ (r6.1 + 2) ∧ (r6.1 + 2) ≤ 9223372036854775807) <|
some (decide ((vget img l r6.1) = 1), (vget img l (r6.1 + 1)), (vget img l (r6.1 + 2)), 0))) else (some (false, 0, 0, r6.2))

theorem sget_walk {img : List Int} {l : List (Int × Int)} {i_ : Int} {vb : Nat} {r : Bool × Int × Int × Int} (B : Nat) (w : World) (hL : CellsAt (some ⟨1, 0, none⟩) [(.int .i64 1), (.int .i64 2), (.int .i64 2)] w) (hv : ViewAt (ptr vb) img l w) (hm : sget_M img l i_ = some r) : Spec Tryd.prog 30 #[(.pointer (some ⟨vb, 0, none⟩)), (.int .i64 i_)] B w [] (fun v H' => v = (.tuple #[(.agg #[(.bool r.1), (.int .u64 r.2.1), (.int .u64 r.2.2.1)]), (.int .i64 r.2.2.2)]) ∧ H' = []) := by
 refine spec_Q Tryd.func30 rfl fun hs => ?_
 unfold sget_M at hm
 refine W.sr fun K1 hK1 => ?_
 refine zN [(.bool false), (.int .u64 0), (.int .u64 0)] 48 hs fun b4 w2 hs3 => ?_
 refine zE 1 (hK1 _ _ ?_)
 refine W.sr fun K5 hK5 => ?_
 refine zR 2 ?_
 obtain ⟨r6, h7, hm⟩ := bind_some hm
 refine zC00 hs3 (ssess_walk (i_ := i_) (img := img) (l := l) (hL := (hs3.oldCells hL)) (hv := (viewAt_old hs3 hv)) (hm := h7) B _) fun w8 hs10 => ?_
 refine zE 5 (hK5 _ _ ?_)
 refine W.seq fun K11 hK11 => ?_
 refine W.sr fun K12 hK12 => ?_
 refine zE 2 (hK12 _ _ ?_)
 refine W.cond (!decide (r6.2 = 0)) (by kernel_rfl) (fun h13 => ?_) (fun h13 => ?_)
 rotate_left
 ·
  have h13p : r6.2 = 0 := of_decide_eq_true (bnot_false h13)
  replace hm := ite_yes hm h13p
  refine W.skip ?_
  refine hK11 _ _ ?_
  refine W.sr fun K14 hK14 => ?_
  refine zR 2 ?_
  refine zC00 hs10 (get_spec (at_ := r6.1) (hv := (viewAt_old hs10 hv)) B _) fun w15 hs17 => ?_
  refine zE 1 (hK14 _ _ ?_)
  refine W.seq fun K18 hK18 => ?_
  refine W.sr fun K19 hK19 => ?_
  refine zE 2 (hK19 _ _ ?_)
  refine W.cond (decide ((vget img l r6.1) > 1)) (by kernel_rfl) (fun h20 => ?_) (fun h20 => ?_)
  ·
   obtain ⟨h20p, hm⟩ := iY hm h20
   refine W.sr fun K21 hK21 => ?_
   refine zR 1 ?_
   refine ops_store (off := 0) (cs := [(.bool false), (.int .u64 0), (.int .u64 0)]) (vs := [(.bool false), (.int .u64 0), (.int .u64 0)]) hs17 (by kernel_rfl) (by simp) rfl (fun w22 hs23 => ?_)
   have hs24 : St B w [] w22 [blk b4 (.cells [(.bool false), (.int .u64 0), (.int .u64 0)].toArray 48 (0, 0))] := hs23
   refine zE 1 (hK21 _ _ ?_)
   refine W.ret (ret_seq ?_)
   obtain rfl := some_inj hm
   have hs25 := St.tk0 hs24
   refine ret_of (.tuple #[(.agg #[(.bool false), (.int .u64 0), (.int .u64 0)]), (.int .i64 4)]) (resS_of (by kernel_rfl) (resD_two rfl (.agg (ad := ⟨b4, 0, none⟩) (cs := [(.bool false), (.int .u64 0), (.int .u64 0)]) (by kernel_rfl) (by kernel_rfl) (cells_sub (hs24.heapAt 0 rfl) rfl)) (.tmp (by kernel_rfl)))) ⟨_, ⟨rfl, rfl⟩, hs25⟩
  ·
   obtain ⟨h20p, hm⟩ := iN hm h20
   refine W.skip ?_
   refine hK18 _ _ ?_
   refine W.sr fun K26 hK26 => ?_
   refine zR 4 ?_
   obtain ⟨h27, hm⟩ := need_some hm
   refine zI _ (wrap_i64 h27.1 h27.2) ?_
   refine zC00 hs17 (get_spec (at_ := (r6.1 + 1)) (hv := (viewAt_old hs17 hv)) B _) fun w28 hs30 => ?_
   refine zR 2 ?_
   obtain ⟨h31, hm⟩ := need_some hm
   refine zI _ (wrap_i64 h31.1 h31.2) ?_
   refine zC00 hs30 (get_spec (at_ := (r6.1 + 2)) (hv := (viewAt_old hs30 hv)) B _) fun w32 hs34 => ?_
   refine zR 1 ?_
   refine ops_store (off := 0) (cs := [(.bool false), (.int .u64 0), (.int .u64 0)]) (vs := [(.bool (decide ((vget img l r6.1) = 1))), (.int .u64 (vget img l (r6.1 + 1))), (.int .u64 (vget img l (r6.1 + 2)))]) hs34 (by kernel_rfl) (by simp) rfl (fun w35 hs36 => ?_)
   have hs37 : St B w [] w35 [blk b4 (.cells [(.bool (decide ((vget img l r6.1) = 1))), (.int .u64 (vget img l (r6.1 + 1))), (.int .u64 (vget img l (r6.1 + 2)))].toArray 48 (0, 0))] := hs36
   refine zE 1 (hK26 _ _ ?_)
   refine W.ret ?_
   obtain rfl := some_inj hm
   have hs38 := St.tk0 hs37
   refine ret_of (.tuple #[(.agg #[(.bool (decide ((vget img l r6.1) = 1))), (.int .u64 (vget img l (r6.1 + 1))), (.int .u64 (vget img l (r6.1 + 2)))]), (.int .i64 0)]) (resS_of (by kernel_rfl) (resD_two rfl (.agg (ad := ⟨b4, 0, none⟩) (cs := [(.bool (decide ((vget img l r6.1) = 1))), (.int .u64 (vget img l (r6.1 + 1))), (.int .u64 (vget img l (r6.1 + 2)))]) (by kernel_rfl) (by kernel_rfl) (cells_sub (hs37.heapAt 0 rfl) rfl)) (.tmp (by kernel_rfl)))) ⟨_, ⟨rfl, rfl⟩, hs38⟩
 ·
  have h13p : ¬ (r6.2 = 0) := of_decide_eq_false (bnot_true h13)
  replace hm := ite_no hm h13p
  refine W.sr fun K39 hK39 => ?_
  refine zR 2 ?_
  refine ops_store (off := 0) (cs := [(.bool false), (.int .u64 0), (.int .u64 0)]) (vs := [(.bool false), (.int .u64 0), (.int .u64 0)]) hs10 (by kernel_rfl) (by simp) rfl (fun w40 hs41 => ?_)
  have hs42 : St B w [] w40 [blk b4 (.cells [(.bool false), (.int .u64 0), (.int .u64 0)].toArray 48 (0, 0))] := hs41
  refine zE 1 (hK39 _ _ ?_)
  refine W.ret (ret_seq ?_)
  obtain rfl := some_inj hm
  have hs43 := St.tk0 hs42
  refine ret_of (.tuple #[(.agg #[(.bool false), (.int .u64 0), (.int .u64 0)]), (.int .i64 r6.2)]) (resS_of (by kernel_rfl) (resD_two rfl (.agg (ad := ⟨b4, 0, none⟩) (cs := [(.bool false), (.int .u64 0), (.int .u64 0)]) (by kernel_rfl) (by kernel_rfl) (cells_sub (hs42.heapAt 0 rfl) rfl)) (.tmp (by kernel_rfl)))) ⟨_, ⟨rfl, rfl⟩, hs43⟩

def sput_J1 (img : List Int) (l : List (Int × Int)) (hg_ : Int) (hk_ : Int) (r6 : Int × Int) (p15 : Int) : Option (Int × List (Int × Int)) :=
 need (-9223372036854775808 ≤ (r6.1 + 1) ∧ (r6.1 + 1) ≤ 9223372036854775807) <|
need (-9223372036854775808 ≤ (r6.1 + 2) ∧ (r6.1 + 2) ≤ 9223372036854775807) <|
(some (vsets img l ([(r6.1, p15), ((r6.1 + 1), hg_), ((r6.1 + 2), hk_)]))).bind fun r58 =>
some (r58.1, r58.2)

def sput_M (img : List Int) (l : List (Int × Int)) (i_ : Int) (ho_ : Bool) (hg_ : Int) (hk_ : Int) : Option (Int × List (Int × Int)) :=
 (ssess_M img i_).bind fun r6 =>
if r6.2 = 0 then (if ho_ = true then (sput_J1 img l hg_ hk_ r6 1) else (sput_J1 img l hg_ hk_ r6 0)) else (some (r6.2, l))

theorem sput_walk {img : List Int} {l : List (Int × Int)} {i_ : Int} {ho_ : Bool} {hg_ : Int} {hk_ : Int} {vb : Nat} {r : Int × List (Int × Int)} (B : Nat) (w : World) (hG2 : 1 < B) (hL : CellsAt (some ⟨1, 0, none⟩) [(.int .i64 1), (.int .i64 2), (.int .i64 2)] w) (hm : sput_M img l i_ ho_ hg_ hk_ = some r) : Spec Tryd.prog 32 #[(.pointer (some ⟨vb, 0, none⟩)), (.int .i64 i_), (.agg #[(.bool ho_), (.int .u64 hg_), (.int .u64 hk_)])] B w [viewA (ptr vb) img l] (fun v H' => v = (.int .i64 r.1) ∧ H' = [viewA (ptr vb) img r.2]) := by
 refine spec_W Tryd.func32 rfl fun l0 hs => ?_
 unfold sput_M at hm
 refine W.sr fun K1 hK1 => ?_
 refine zN [(.bool ho_), (.int .u64 hg_), (.int .u64 hk_)] 48 hs fun b4 w2 hs3 => ?_
 refine zE 1 (hK1 _ _ ?_)
 refine W.sr fun K5 hK5 => ?_
 refine zR 2 ?_
 obtain ⟨r6, h7, hm⟩ := bind_some hm
 refine zC00 hs3 (ssess_walk (i_ := i_) (img := img) (l := l) (hL := (hs3.oldCellsB hG2 hL)) (hv := (hs3.entAt 1 rfl viewA_at)) (hm := h7) B _) fun w8 hs10 => ?_
 refine zE 5 (hK5 _ _ ?_)
 refine W.seq fun K11 hK11 => ?_
 refine W.sr fun K12 hK12 => ?_
 refine zE 2 (hK12 _ _ ?_)
 refine W.cond (!decide (r6.2 = 0)) (by kernel_rfl) (fun h13 => ?_) (fun h13 => ?_)
 rotate_left
 ·
  have h13p : r6.2 = 0 := of_decide_eq_true (bnot_false h13)
  replace hm := ite_yes hm h13p
  refine W.skip ?_
  refine hK11 _ _ ?_
  refine W.sr fun K14 hK14 => ?_
  refine zE 1 (hK14 _ _ ?_)
  refine W.seq_join (fun s_ w_ => ∃ (p15 : Int), (∃ us, s_ = slots 37 [(0, (.pointer (some ⟨vb, 0, none⟩))), (5, (.pointer (some ⟨b4, 0, none⟩))), (7, (.int .i64 r6.1)), (9, (.int .u64 p15))] us) ∧ St B w l0 w_ [viewA (ptr vb) img l, blk b4 (.cells [(.bool ho_), (.int .u64 hg_), (.int .u64 hk_)].toArray 48 (0, 0))] ∧ sput_J1 img l hg_ hk_ r6 p15 = some r) ?_ ?_
  ·
   rintro _ w16 ⟨p15, ⟨us, rfl⟩, hs17, hm⟩
   unfold sput_J1 at hm
   refine W.seq fun K18 hK18 => ?_
   have hs19 := hs17.drew
   have hs20 := St.f1 hs19
   have hs21 := St.tk1 hs20
   refine W.regionD [(0, 0), (0, 0), (0, 0), (6, 6), (0, 0), (16, 16), (0, 0), (64, 64), (168, 160), (0, 0), (512, 512), (0, 0), (2048, 2048), (5376, 5120), (8456, 8456), (24577, 16385), (65535, 32768)] (fun w_ => St B w l0 w_ [blk b4 (.cells [(.bool ho_), (.int .u64 hg_), (.int .u64 hk_)].toArray 48 (0, 0))]) (by kernel_rfl) hs21 ?_
   refine any_val (v := (.pointer (some ⟨vb, 0, none⟩))) (v' := (.pointer (some ⟨vb, 0, none⟩))) 0 (by kernel_rfl) (fun _ => by kernel_rfl) rfl hs21 ?_
   refine any_val (v := (.int .i64 r6.1)) (v' := (.int .i64 r6.1)) 1 (by kernel_rfl) (fun _ => by kernel_rfl) rfl hs21 ?_
   refine any_val (v := (.int .u64 p15)) (v' := (.int .u64 p15)) 2 (by kernel_rfl) (fun _ => by kernel_rfl) rfl hs21 ?_
   refine any_val (v := (.int .i64 r6.1)) (v' := (.int .i64 r6.1)) 4 (by kernel_rfl) (fun _ => by kernel_rfl) rfl hs21 ?_
   obtain ⟨h22, hm⟩ := need_some hm
   refine any_val (v := .int .i64 (IntKind.i64.wrap (r6.1 + 1))) (v' := .int .i64 (r6.1 + 1)) 5 (by kernel_rfl) (fun _ => by kernel_rfl) (congrArg (Value.int .i64) (wrap_i64 h22.1 h22.2)) hs21 ?_
   refine any_val (v := (.pointer (some ⟨b4, 1, none⟩))) (v' := (.pointer (some ⟨b4, 1, none⟩))) 6 (by kernel_rfl) (fun _ => by kernel_rfl) rfl hs21 ?_
   refine any_R 7 (by kernel_rfl) (fun _ hS_ => runs_load (ad := ⟨b4, 1, none⟩) (v := (.int .u64 hg_)) (by kernel_rfl) (hS_.cellAt 0 rfl rfl)) hs21 ?_
   refine any_val (v := (.int .i64 r6.1)) (v' := (.int .i64 r6.1)) 9 (by kernel_rfl) (fun _ => by kernel_rfl) rfl hs21 ?_
   obtain ⟨h23, hm⟩ := need_some hm
   refine any_val (v := .int .i64 (IntKind.i64.wrap (r6.1 + 2))) (v' := .int .i64 (r6.1 + 2)) 10 (by kernel_rfl) (fun _ => by kernel_rfl) (congrArg (Value.int .i64) (wrap_i64 h23.1 h23.2)) hs21 ?_
   refine any_val (v := (.pointer (some ⟨b4, 2, none⟩))) (v' := (.pointer (some ⟨b4, 2, none⟩))) 11 (by kernel_rfl) (fun _ => by kernel_rfl) rfl hs21 ?_
   refine any_R 12 (by kernel_rfl) (fun _ hS_ => runs_load (ad := ⟨b4, 2, none⟩) (v := (.int .u64 hk_)) (by kernel_rfl) (hS_.cellAt 0 rfl rfl)) hs21 ?_
   refine any_step 3 (by kernel_rfl) (by kernel_rfl) ?_
   refine ops_call0 hs19 (by kernel_rfl) (word_spec (at_ := r6.1) (x_ := p15) B _) ?_
   rintro _ _ w26 ⟨b24, b25, rfl, rfl⟩ hs27
   have hs28 := St.ap2 hs27
   have hs29 := St.f3 hs28
   have hs30 := St.tk1 hs29
   refine ops_done (by kernel_rfl) ⟨hs30, ?_⟩
   refine any_step 8 (by kernel_rfl) (by kernel_rfl) ?_
   refine ops_call0 hs28 (by kernel_rfl) (word_spec (at_ := (r6.1 + 1)) (x_ := hg_) B _) ?_
   rintro _ _ w33 ⟨b31, b32, rfl, rfl⟩ hs34
   have hs35 := St.ap2 hs34
   have hs36 := St.f5 hs35
   have hs37 := St.tk1 hs36
   refine ops_done (by kernel_rfl) ⟨hs37, ?_⟩
   refine any_step 13 (by kernel_rfl) (by kernel_rfl) ?_
   refine ops_call0 hs35 (by kernel_rfl) (word_spec (at_ := (r6.1 + 2)) (x_ := hk_) B _) ?_
   rintro _ _ w40 ⟨b38, b39, rfl, rfl⟩ hs41
   have hs42 := St.ap2 hs41
   have hs43 := St.f7 hs42
   have hs44 := St.tk1 hs43
   refine ops_done (by kernel_rfl) ⟨hs44, ?_⟩
   refine any_step 14 (by kernel_rfl) (by kernel_rfl) ?_
   refine ops_new (fun b => .slice (some ⟨b, 0, none⟩) 3 3) (.cells [(.func (.func 144) #[] #[(.pointer (some ⟨b24, 0, none⟩)), (.pointer (some ⟨b25, 0, none⟩))]), (.func (.func 144) #[] #[(.pointer (some ⟨b31, 0, none⟩)), (.pointer (some ⟨b32, 0, none⟩))]), (.func (.func 144) #[] #[(.pointer (some ⟨b38, 0, none⟩)), (.pointer (some ⟨b39, 0, none⟩))])].toArray 172 (0, 0)) hs42 (by kernel_rfl) (fun b47 w45 hs46 => ?_)
   have hs48 := St.f8 hs46
   have hs49 := St.tk1 hs48
   refine ops_done (by kernel_rfl) ⟨hs49, ?_⟩
   refine any_step 15 (by kernel_rfl) (by kernel_rfl) ?_
   have hs50 := St.f2 hs46
   have hs51 := St.f2 hs50
   have hs52 := St.f4 hs51
   have hs53 := St.f4 hs52
   have hs54 := St.f6 hs53
   have hs55 := St.f6 hs54
   have hs56 := St.f6 hs55
   have hs57 := St.steps_three hs56
   obtain ⟨r58, h59, hm⟩ := bind_some hm
   replace h59 := some_inj h59
   have hs62 := St.f1 hs57
   refine ops_call2 hs62 (by kernel_rfl) (row_spec (b := vb) (img := img) (l := l) (a := (some ⟨b47, 0, none⟩)) (c := 3) (n := 3) (xs := [(r6.1, p15), ((r6.1 + 1), hg_), ((r6.1 + 2), hk_)]) (hn := rfl) (hsz := (by simp only [List.length_cons, List.length_nil]; omega)) B _) ?_
   rintro _ _ w63 ⟨hv60, hH61⟩ hs64
   rw [h59] at hv60
   try rw [h59] at hH61
   subst hv60 hH61
   have hs65 := St.ap1 hs64
   have hs66 := St.f1 hs65
   have hs67 := St.tk1 hs66
   refine ops_done (by kernel_rfl) ⟨hs67, ?_⟩
   refine any_val (v := (.int .i64 r58.1)) (v' := (.int .i64 r58.1)) 16 (by kernel_rfl) (fun _ => by kernel_rfl) rfl hs67 ?_
   refine any_done (by kernel_rfl) ?_
   refine hK18 _ _ ?_
   refine W.ret ?_
   obtain rfl := some_inj hm
   have hs68 := St.tk1 hs65
   refine ret_of (.int .i64 r58.1) (by kernel_rfl) ⟨_, ⟨rfl, rfl⟩, hs68⟩
  ·
   refine W.sr fun K69 hK69 => ?_
   refine zR 1 ?_
   refine zL ⟨b4, 0, none⟩ (.bool ho_) (hs10.cellAt 0 rfl rfl) ?_
   refine zD (hK69 _ _ ?_)
   refine W.cond ho_ (by kernel_rfl) (fun h70 => ?_) (fun h70 => ?_)
   ·
    have h70p : ho_ = true := h70
    replace hm := ite_yes hm h70p
    refine W.region ?_
    refine zE 1 ?_
    have hs71 := St.f1 hs10
    exact ⟨1, slots_intro _ (by kernel_rfl), hs71, hm⟩
   ·
    have h70p : ¬ (ho_ = true) := ne_true_of_eq_false h70
    replace hm := ite_no hm h70p
    refine W.skip ?_
    have hs72 := St.f1 hs10
    exact ⟨0, slots_intro _ (by kernel_rfl), hs72, hm⟩
 ·
  have h13p : ¬ (r6.2 = 0) := of_decide_eq_false (bnot_true h13)
  replace hm := ite_no hm h13p
  refine W.sr fun K73 hK73 => ?_
  refine zE 2 (hK73 _ _ ?_)
  refine W.ret (ret_seq ?_)
  obtain rfl := some_inj hm
  have hs74 := St.f1 hs10
  have hs75 := St.tk1 hs74
  refine ret_of (.int .i64 r6.2) (by kernel_rfl) ⟨_, ⟨rfl, rfl⟩, hs75⟩

def swipe_M (img : List Int) (l : List (Int × Int)) (i_ : Int) : Option (Int × List (Int × Int)) :=
 (ssess_M img i_).bind fun r3 =>
if r3.2 = 0 then (need (-9223372036854775808 ≤ ((descAt i_ 0) + 1) ∧ ((descAt i_ 0) + 1) ≤ 9223372036854775807) <|
need (-9223372036854775808 ≤ ((descAt i_ 1) + 1) ∧ ((descAt i_ 1) + 1) ≤ 9223372036854775807) <|
need (-9223372036854775808 ≤ ((descAt i_ 2) + 1) ∧ ((descAt i_ 2) + 1) ≤ 9223372036854775807) <|
need (-9223372036854775808 ≤ ((descAt i_ 3) + 1) ∧ ((descAt i_ 3) + 1) ≤ 9223372036854775807) <|
(some (vsets img l ([((slotAt i_ 0), 0), ((slotAt i_ 1), 0), ((slotAt i_ 2), 0), ((slotAt i_ 3), 0), ((descAt i_ 0), 0), (((descAt i_ 0) + 1), 0), ((descAt i_ 1), 0), (((descAt i_ 1) + 1), 0), ((descAt i_ 2), 0), (((descAt i_ 2) + 1), 0), ((descAt i_ 3), 0), (((descAt i_ 3) + 1), 0)]))).bind fun r250 =>
some (r250.1, r250.2)) else (some (r3.2, l))

theorem swipe_walk {img : List Int} {l : List (Int × Int)} {i_ : Int} {vb : Nat} {r : Int × List (Int × Int)} (B : Nat) (w : World) (hG2 : 1 < B) (hL : CellsAt (some ⟨1, 0, none⟩) [(.int .i64 1), (.int .i64 2), (.int .i64 2)] w) (hm : swipe_M img l i_ = some r) : Spec Tryd.prog 34 #[(.pointer (some ⟨vb, 0, none⟩)), (.int .i64 i_)] B w [viewA (ptr vb) img l] (fun v H' => v = (.int .i64 r.1) ∧ H' = [viewA (ptr vb) img r.2]) := by
 refine spec_W Tryd.func34 rfl fun l0 hs => ?_
 unfold swipe_M at hm
 refine W.sr fun K1 hK1 => ?_
 refine zE 1 (hK1 _ _ ?_)
 refine W.sr fun K2 hK2 => ?_
 refine zR 2 ?_
 obtain ⟨r3, h4, hm⟩ := bind_some hm
 refine zC00 hs (ssess_walk (i_ := i_) (img := img) (l := l) (hL := (hs.oldCellsB hG2 hL)) (hv := (hs.entAt 0 rfl viewA_at)) (hm := h4) B _) fun w5 hs7 => ?_
 refine zE 5 (hK2 _ _ ?_)
 refine W.seq fun K8 hK8 => ?_
 refine W.sr fun K9 hK9 => ?_
 refine zE 2 (hK9 _ _ ?_)
 refine W.cond (!decide (r3.2 = 0)) (by kernel_rfl) (fun h10 => ?_) (fun h10 => ?_)
 rotate_left
 ·
  have h10p : r3.2 = 0 := of_decide_eq_true (bnot_false h10)
  replace hm := ite_yes hm h10p
  refine W.skip ?_
  refine hK8 _ _ ?_
  refine W.sr fun K11 hK11 => ?_
  refine zE 1 (hK11 _ _ ?_)
  refine W.seq fun K12 hK12 => ?_
  refine W.sr fun K13 hK13 => ?_
  refine zE 1 (hK13 _ _ ?_)
  refine W.block ?_
  refine W.loop_start ?_
  refine loopAt_round ?_
  refine W.sr fun K14 hK14 => ?_
  refine zE 1 (hK14 _ _ ?_)
  refine W.seq fun K15 hK15 => ?_
  refine W.cond_true true (by kernel_rfl) rfl ?_
  refine W.skip ?_
  refine hK15 _ _ ?_
  refine W.seq fun K16 hK16 => ?_
  refine W.block ?_
  refine W.sr fun K17 hK17 => ?_
  refine zE 2 (hK17 _ _ ?_)
  refine W.region ?_
  refine zR 3 ?_
  refine zC00 hs7 (slotat_spec (i_ := i_) (k_ := 0) (hL := (hs7.oldCellsB hG2 hL)) B _) fun w18 hs20 => ?_
  refine ops_call0 hs20 (by kernel_rfl) (word_spec (at_ := (slotAt i_ 0)) (x_ := 0) B _) ?_
  rintro _ _ w23 ⟨b21, b22, rfl, rfl⟩ hs24
  have hs25 := St.ap2 hs24
  refine ops_new (fun b => .slice (some ⟨b, 0, none⟩) 1 1) (.cells [(.func (.func 144) #[] #[(.pointer (some ⟨b21, 0, none⟩)), (.pointer (some ⟨b22, 0, none⟩))])].toArray 172 (0, 0)) hs25 (by kernel_rfl) (fun b28 w26 hs27 => ?_)
  have hs29 := St.steps_nil hs27
  have hs30 := St.f3 hs29
  have hs31 := St.f3 hs30
  have hs32 := St.f3 hs31
  have hs33 := St.f3 hs32
  refine ops_appendSteps (bytes := 8) (a := none) (c := 0) (sb := b28) (b1 := b21) (b2 := b22) (xs := []) (x := (slotAt i_ 0)) (y := 0) hs33 (by kernel_rfl) (by unfold maxLen; simp only [List.length_cons, List.length_nil]; omega) (by simp only [List.length_cons, List.length_nil]; omega) (fun a34 c35 w36 hs37 => ?_)
  have hs38 : St B w l0 w36 [stepsA a34 c35 ([((slotAt i_ 0), 0)]), viewA (ptr vb) img l] := hs37
  refine zE 1 ?_
  refine normal_block ?_
  refine hK16 _ _ ?_
  refine W.region ?_
  refine zE 2 ?_
  refine loopAt_next ?_
  refine loopAt_round ?_
  refine W.sr fun K39 hK39 => ?_
  refine zE 1 (hK39 _ _ ?_)
  refine W.seq fun K40 hK40 => ?_
  refine W.cond_true true (by kernel_rfl) rfl ?_
  refine W.skip ?_
  refine hK40 _ _ ?_
  refine W.seq fun K41 hK41 => ?_
  refine W.block ?_
  refine W.sr fun K42 hK42 => ?_
  refine zE 2 (hK42 _ _ ?_)
  refine W.region ?_
  refine zR 3 ?_
  refine zC00 hs38 (slotat_spec (i_ := i_) (k_ := 1) (hL := (hs38.oldCellsB hG2 hL)) B _) fun w43 hs45 => ?_
  refine ops_call0 hs45 (by kernel_rfl) (word_spec (at_ := (slotAt i_ 1)) (x_ := 0) B _) ?_
  rintro _ _ w48 ⟨b46, b47, rfl, rfl⟩ hs49
  have hs50 := St.ap2 hs49
  refine ops_new (fun b => .slice (some ⟨b, 0, none⟩) 1 1) (.cells [(.func (.func 144) #[] #[(.pointer (some ⟨b46, 0, none⟩)), (.pointer (some ⟨b47, 0, none⟩))])].toArray 172 (0, 0)) hs50 (by kernel_rfl) (fun b53 w51 hs52 => ?_)
  have hs54 := St.f2 hs52
  have hs55 := St.f2 hs54
  have hs56 := St.f2 hs55
  have hs57 := St.f3 hs56
  refine ops_appendSteps (bytes := 8) (a := a34) (c := c35) (sb := b53) (b1 := b46) (b2 := b47) (xs := [((slotAt i_ 0), 0)]) (x := (slotAt i_ 1)) (y := 0) hs57 (by kernel_rfl) (by unfold maxLen; simp only [List.length_cons, List.length_nil]; omega) (by simp only [List.length_cons, List.length_nil]; omega) (fun a58 c59 w60 hs61 => ?_)
  have hs62 : St B w l0 w60 [stepsA a58 c59 ([((slotAt i_ 0), 0), ((slotAt i_ 1), 0)]), viewA (ptr vb) img l] := hs61
  refine zE 1 ?_
  refine normal_block ?_
  refine hK41 _ _ ?_
  refine W.region ?_
  refine zE 2 ?_
  refine loopAt_next ?_
  refine loopAt_round ?_
  refine W.sr fun K63 hK63 => ?_
  refine zE 1 (hK63 _ _ ?_)
  refine W.seq fun K64 hK64 => ?_
  refine W.cond_true true (by kernel_rfl) rfl ?_
  refine W.skip ?_
  refine hK64 _ _ ?_
  refine W.seq fun K65 hK65 => ?_
  refine W.block ?_
  refine W.sr fun K66 hK66 => ?_
  refine zE 2 (hK66 _ _ ?_)
  refine W.region ?_
  refine zR 3 ?_
  refine zC00 hs62 (slotat_spec (i_ := i_) (k_ := 2) (hL := (hs62.oldCellsB hG2 hL)) B _) fun w67 hs69 => ?_
  refine ops_call0 hs69 (by kernel_rfl) (word_spec (at_ := (slotAt i_ 2)) (x_ := 0) B _) ?_
  rintro _ _ w72 ⟨b70, b71, rfl, rfl⟩ hs73
  have hs74 := St.ap2 hs73
  refine ops_new (fun b => .slice (some ⟨b, 0, none⟩) 1 1) (.cells [(.func (.func 144) #[] #[(.pointer (some ⟨b70, 0, none⟩)), (.pointer (some ⟨b71, 0, none⟩))])].toArray 172 (0, 0)) hs74 (by kernel_rfl) (fun b77 w75 hs76 => ?_)
  have hs78 := St.f2 hs76
  have hs79 := St.f2 hs78
  have hs80 := St.f2 hs79
  have hs81 := St.f3 hs80
  refine ops_appendSteps (bytes := 8) (a := a58) (c := c59) (sb := b77) (b1 := b70) (b2 := b71) (xs := [((slotAt i_ 0), 0), ((slotAt i_ 1), 0)]) (x := (slotAt i_ 2)) (y := 0) hs81 (by kernel_rfl) (by unfold maxLen; simp only [List.length_cons, List.length_nil]; omega) (by simp only [List.length_cons, List.length_nil]; omega) (fun a82 c83 w84 hs85 => ?_)
  have hs86 : St B w l0 w84 [stepsA a82 c83 ([((slotAt i_ 0), 0), ((slotAt i_ 1), 0), ((slotAt i_ 2), 0)]), viewA (ptr vb) img l] := hs85
  refine zE 1 ?_
  refine normal_block ?_
  refine hK65 _ _ ?_
  refine W.region ?_
  refine zE 2 ?_
  refine loopAt_next ?_
  refine loopAt_round ?_
  refine W.sr fun K87 hK87 => ?_
  refine zE 1 (hK87 _ _ ?_)
  refine W.seq fun K88 hK88 => ?_
  refine W.cond_true true (by kernel_rfl) rfl ?_
  refine W.skip ?_
  refine hK88 _ _ ?_
  refine W.seq fun K89 hK89 => ?_
  refine W.block ?_
  refine W.sr fun K90 hK90 => ?_
  refine zE 2 (hK90 _ _ ?_)
  refine W.region ?_
  refine zR 3 ?_
  refine zC00 hs86 (slotat_spec (i_ := i_) (k_ := 3) (hL := (hs86.oldCellsB hG2 hL)) B _) fun w91 hs93 => ?_
  refine ops_call0 hs93 (by kernel_rfl) (word_spec (at_ := (slotAt i_ 3)) (x_ := 0) B _) ?_
  rintro _ _ w96 ⟨b94, b95, rfl, rfl⟩ hs97
  have hs98 := St.ap2 hs97
  refine ops_new (fun b => .slice (some ⟨b, 0, none⟩) 1 1) (.cells [(.func (.func 144) #[] #[(.pointer (some ⟨b94, 0, none⟩)), (.pointer (some ⟨b95, 0, none⟩))])].toArray 172 (0, 0)) hs98 (by kernel_rfl) (fun b101 w99 hs100 => ?_)
  have hs102 := St.f2 hs100
  have hs103 := St.f2 hs102
  have hs104 := St.f2 hs103
  have hs105 := St.f3 hs104
  refine ops_appendSteps (bytes := 8) (a := a82) (c := c83) (sb := b101) (b1 := b94) (b2 := b95) (xs := [((slotAt i_ 0), 0), ((slotAt i_ 1), 0), ((slotAt i_ 2), 0)]) (x := (slotAt i_ 3)) (y := 0) hs105 (by kernel_rfl) (by unfold maxLen; simp only [List.length_cons, List.length_nil]; omega) (by simp only [List.length_cons, List.length_nil]; omega) (fun a106 c107 w108 hs109 => ?_)
  have hs110 : St B w l0 w108 [stepsA a106 c107 ([((slotAt i_ 0), 0), ((slotAt i_ 1), 0), ((slotAt i_ 2), 0), ((slotAt i_ 3), 0)]), viewA (ptr vb) img l] := hs109
  refine zE 1 ?_
  refine normal_block ?_
  refine hK89 _ _ ?_
  refine W.region ?_
  refine zE 2 ?_
  refine loopAt_next ?_
  refine loopAt_round ?_
  refine W.sr fun K111 hK111 => ?_
  refine zE 1 (hK111 _ _ ?_)
  refine W.seq fun K112 hK112 => ?_
  refine W.cond_false false (by kernel_rfl) rfl ?_
  refine W.exit (exit_seq (exit_seq (exit_here ?_)))
  refine hK12 _ _ ?_
  refine W.seq fun K113 hK113 => ?_
  refine W.sr fun K114 hK114 => ?_
  refine zE 1 (hK114 _ _ ?_)
  refine W.block ?_
  refine W.loop_start ?_
  refine loopAt_round ?_
  refine W.sr fun K115 hK115 => ?_
  refine zE 1 (hK115 _ _ ?_)
  refine W.seq fun K116 hK116 => ?_
  refine W.cond_true true (by kernel_rfl) rfl ?_
  refine W.skip ?_
  refine hK116 _ _ ?_
  refine W.seq fun K117 hK117 => ?_
  refine W.block ?_
  refine W.sr fun K118 hK118 => ?_
  refine zE 2 (hK118 _ _ ?_)
  refine W.sr fun K119 hK119 => ?_
  refine zR 2 ?_
  refine zC00 hs110 (descat_spec (i_ := i_) (k_ := 0) (hL := (hs110.oldCellsB hG2 hL)) B _) fun w120 hs122 => ?_
  refine zE 1 (hK119 _ _ ?_)
  refine W.region ?_
  refine zR 2 ?_
  refine ops_call0 hs122 (by kernel_rfl) (word_spec (at_ := (descAt i_ 0)) (x_ := 0) B _) ?_
  rintro _ _ w125 ⟨b123, b124, rfl, rfl⟩ hs126
  have hs127 := St.ap2 hs126
  refine zR 1 ?_
  obtain ⟨h128, hm⟩ := need_some hm
  refine zI _ (wrap_i64 h128.1 h128.2) ?_
  refine ops_call0 hs127 (by kernel_rfl) (word_spec (at_ := ((descAt i_ 0) + 1)) (x_ := 0) B _) ?_
  rintro _ _ w131 ⟨b129, b130, rfl, rfl⟩ hs132
  have hs133 := St.ap2 hs132
  refine ops_new (fun b => .slice (some ⟨b, 0, none⟩) 2 2) (.cells [(.func (.func 144) #[] #[(.pointer (some ⟨b123, 0, none⟩)), (.pointer (some ⟨b124, 0, none⟩))]), (.func (.func 144) #[] #[(.pointer (some ⟨b129, 0, none⟩)), (.pointer (some ⟨b130, 0, none⟩))])].toArray 172 (0, 0)) hs133 (by kernel_rfl) (fun b136 w134 hs135 => ?_)
  have hs137 := St.f2 hs135
  have hs138 := St.f2 hs137
  have hs139 := St.f4 hs138
  have hs140 := St.f4 hs139
  have hs141 := St.f4 hs140
  have hs142 := St.f5 hs141
  refine ops_appendSteps2 (bytes := 8) (a := a106) (c := c107) (sb := b136) (b1 := b123) (b2 := b124) (b3 := b129) (b4 := b130) (xs := [((slotAt i_ 0), 0), ((slotAt i_ 1), 0), ((slotAt i_ 2), 0), ((slotAt i_ 3), 0)]) (x := (descAt i_ 0)) (y := 0) (x' := ((descAt i_ 0) + 1)) (y' := 0) hs142 (by kernel_rfl) (by unfold maxLen; simp only [List.length_cons, List.length_nil]; omega) (by simp only [List.length_cons, List.length_nil]; omega) (fun a143 c144 w145 hs146 => ?_)
  have hs147 : St B w l0 w145 [stepsA a143 c144 ([((slotAt i_ 0), 0), ((slotAt i_ 1), 0), ((slotAt i_ 2), 0), ((slotAt i_ 3), 0), ((descAt i_ 0), 0), (((descAt i_ 0) + 1), 0)]), viewA (ptr vb) img l] := hs146
  refine zE 1 ?_
  refine normal_block ?_
  refine hK117 _ _ ?_
  refine W.region ?_
  refine zE 2 ?_
  refine loopAt_next ?_
  refine loopAt_round ?_
  refine W.sr fun K148 hK148 => ?_
  refine zE 1 (hK148 _ _ ?_)
  refine W.seq fun K149 hK149 => ?_
  refine W.cond_true true (by kernel_rfl) rfl ?_
  refine W.skip ?_
  refine hK149 _ _ ?_
  refine W.seq fun K150 hK150 => ?_
  refine W.block ?_
  refine W.sr fun K151 hK151 => ?_
  refine zE 2 (hK151 _ _ ?_)
  refine W.sr fun K152 hK152 => ?_
  refine zR 2 ?_
  refine zC00 hs147 (descat_spec (i_ := i_) (k_ := 1) (hL := (hs147.oldCellsB hG2 hL)) B _) fun w153 hs155 => ?_
  refine zE 1 (hK152 _ _ ?_)
  refine W.region ?_
  refine zR 2 ?_
  refine ops_call0 hs155 (by kernel_rfl) (word_spec (at_ := (descAt i_ 1)) (x_ := 0) B _) ?_
  rintro _ _ w158 ⟨b156, b157, rfl, rfl⟩ hs159
  have hs160 := St.ap2 hs159
  refine zR 1 ?_
  obtain ⟨h161, hm⟩ := need_some hm
  refine zI _ (wrap_i64 h161.1 h161.2) ?_
  refine ops_call0 hs160 (by kernel_rfl) (word_spec (at_ := ((descAt i_ 1) + 1)) (x_ := 0) B _) ?_
  rintro _ _ w164 ⟨b162, b163, rfl, rfl⟩ hs165
  have hs166 := St.ap2 hs165
  refine ops_new (fun b => .slice (some ⟨b, 0, none⟩) 2 2) (.cells [(.func (.func 144) #[] #[(.pointer (some ⟨b156, 0, none⟩)), (.pointer (some ⟨b157, 0, none⟩))]), (.func (.func 144) #[] #[(.pointer (some ⟨b162, 0, none⟩)), (.pointer (some ⟨b163, 0, none⟩))])].toArray 172 (0, 0)) hs166 (by kernel_rfl) (fun b169 w167 hs168 => ?_)
  have hs170 := St.f2 hs168
  have hs171 := St.f2 hs170
  have hs172 := St.f4 hs171
  have hs173 := St.f4 hs172
  have hs174 := St.f4 hs173
  have hs175 := St.f5 hs174
  refine ops_appendSteps2 (bytes := 8) (a := a143) (c := c144) (sb := b169) (b1 := b156) (b2 := b157) (b3 := b162) (b4 := b163) (xs := [((slotAt i_ 0), 0), ((slotAt i_ 1), 0), ((slotAt i_ 2), 0), ((slotAt i_ 3), 0), ((descAt i_ 0), 0), (((descAt i_ 0) + 1), 0)]) (x := (descAt i_ 1)) (y := 0) (x' := ((descAt i_ 1) + 1)) (y' := 0) hs175 (by kernel_rfl) (by unfold maxLen; simp only [List.length_cons, List.length_nil]; omega) (by simp only [List.length_cons, List.length_nil]; omega) (fun a176 c177 w178 hs179 => ?_)
  have hs180 : St B w l0 w178 [stepsA a176 c177 ([((slotAt i_ 0), 0), ((slotAt i_ 1), 0), ((slotAt i_ 2), 0), ((slotAt i_ 3), 0), ((descAt i_ 0), 0), (((descAt i_ 0) + 1), 0), ((descAt i_ 1), 0), (((descAt i_ 1) + 1), 0)]), viewA (ptr vb) img l] := hs179
  refine zE 1 ?_
  refine normal_block ?_
  refine hK150 _ _ ?_
  refine W.region ?_
  refine zE 2 ?_
  refine loopAt_next ?_
  refine loopAt_round ?_
  refine W.sr fun K181 hK181 => ?_
  refine zE 1 (hK181 _ _ ?_)
  refine W.seq fun K182 hK182 => ?_
  refine W.cond_true true (by kernel_rfl) rfl ?_
  refine W.skip ?_
  refine hK182 _ _ ?_
  refine W.seq fun K183 hK183 => ?_
  refine W.block ?_
  refine W.sr fun K184 hK184 => ?_
  refine zE 2 (hK184 _ _ ?_)
  refine W.sr fun K185 hK185 => ?_
  refine zR 2 ?_
  refine zC00 hs180 (descat_spec (i_ := i_) (k_ := 2) (hL := (hs180.oldCellsB hG2 hL)) B _) fun w186 hs188 => ?_
  refine zE 1 (hK185 _ _ ?_)
  refine W.region ?_
  refine zR 2 ?_
  refine ops_call0 hs188 (by kernel_rfl) (word_spec (at_ := (descAt i_ 2)) (x_ := 0) B _) ?_
  rintro _ _ w191 ⟨b189, b190, rfl, rfl⟩ hs192
  have hs193 := St.ap2 hs192
  refine zR 1 ?_
  obtain ⟨h194, hm⟩ := need_some hm
  refine zI _ (wrap_i64 h194.1 h194.2) ?_
  refine ops_call0 hs193 (by kernel_rfl) (word_spec (at_ := ((descAt i_ 2) + 1)) (x_ := 0) B _) ?_
  rintro _ _ w197 ⟨b195, b196, rfl, rfl⟩ hs198
  have hs199 := St.ap2 hs198
  refine ops_new (fun b => .slice (some ⟨b, 0, none⟩) 2 2) (.cells [(.func (.func 144) #[] #[(.pointer (some ⟨b189, 0, none⟩)), (.pointer (some ⟨b190, 0, none⟩))]), (.func (.func 144) #[] #[(.pointer (some ⟨b195, 0, none⟩)), (.pointer (some ⟨b196, 0, none⟩))])].toArray 172 (0, 0)) hs199 (by kernel_rfl) (fun b202 w200 hs201 => ?_)
  have hs203 := St.f2 hs201
  have hs204 := St.f2 hs203
  have hs205 := St.f4 hs204
  have hs206 := St.f4 hs205
  have hs207 := St.f4 hs206
  have hs208 := St.f5 hs207
  refine ops_appendSteps2 (bytes := 8) (a := a176) (c := c177) (sb := b202) (b1 := b189) (b2 := b190) (b3 := b195) (b4 := b196) (xs := [((slotAt i_ 0), 0), ((slotAt i_ 1), 0), ((slotAt i_ 2), 0), ((slotAt i_ 3), 0), ((descAt i_ 0), 0), (((descAt i_ 0) + 1), 0), ((descAt i_ 1), 0), (((descAt i_ 1) + 1), 0)]) (x := (descAt i_ 2)) (y := 0) (x' := ((descAt i_ 2) + 1)) (y' := 0) hs208 (by kernel_rfl) (by unfold maxLen; simp only [List.length_cons, List.length_nil]; omega) (by simp only [List.length_cons, List.length_nil]; omega) (fun a209 c210 w211 hs212 => ?_)
  have hs213 : St B w l0 w211 [stepsA a209 c210 ([((slotAt i_ 0), 0), ((slotAt i_ 1), 0), ((slotAt i_ 2), 0), ((slotAt i_ 3), 0), ((descAt i_ 0), 0), (((descAt i_ 0) + 1), 0), ((descAt i_ 1), 0), (((descAt i_ 1) + 1), 0), ((descAt i_ 2), 0), (((descAt i_ 2) + 1), 0)]), viewA (ptr vb) img l] := hs212
  refine zE 1 ?_
  refine normal_block ?_
  refine hK183 _ _ ?_
  refine W.region ?_
  refine zE 2 ?_
  refine loopAt_next ?_
  refine loopAt_round ?_
  refine W.sr fun K214 hK214 => ?_
  refine zE 1 (hK214 _ _ ?_)
  refine W.seq fun K215 hK215 => ?_
  refine W.cond_true true (by kernel_rfl) rfl ?_
  refine W.skip ?_
  refine hK215 _ _ ?_
  refine W.seq fun K216 hK216 => ?_
  refine W.block ?_
  refine W.sr fun K217 hK217 => ?_
  refine zE 2 (hK217 _ _ ?_)
  refine W.sr fun K218 hK218 => ?_
  refine zR 2 ?_
  refine zC00 hs213 (descat_spec (i_ := i_) (k_ := 3) (hL := (hs213.oldCellsB hG2 hL)) B _) fun w219 hs221 => ?_
  refine zE 1 (hK218 _ _ ?_)
  refine W.region ?_
  refine zR 2 ?_
  refine ops_call0 hs221 (by kernel_rfl) (word_spec (at_ := (descAt i_ 3)) (x_ := 0) B _) ?_
  rintro _ _ w224 ⟨b222, b223, rfl, rfl⟩ hs225
  have hs226 := St.ap2 hs225
  refine zR 1 ?_
  obtain ⟨h227, hm⟩ := need_some hm
  refine zI _ (wrap_i64 h227.1 h227.2) ?_
  refine ops_call0 hs226 (by kernel_rfl) (word_spec (at_ := ((descAt i_ 3) + 1)) (x_ := 0) B _) ?_
  rintro _ _ w230 ⟨b228, b229, rfl, rfl⟩ hs231
  have hs232 := St.ap2 hs231
  refine ops_new (fun b => .slice (some ⟨b, 0, none⟩) 2 2) (.cells [(.func (.func 144) #[] #[(.pointer (some ⟨b222, 0, none⟩)), (.pointer (some ⟨b223, 0, none⟩))]), (.func (.func 144) #[] #[(.pointer (some ⟨b228, 0, none⟩)), (.pointer (some ⟨b229, 0, none⟩))])].toArray 172 (0, 0)) hs232 (by kernel_rfl) (fun b235 w233 hs234 => ?_)
  have hs236 := St.f2 hs234
  have hs237 := St.f2 hs236
  have hs238 := St.f4 hs237
  have hs239 := St.f4 hs238
  have hs240 := St.f4 hs239
  have hs241 := St.f5 hs240
  refine ops_appendSteps2 (bytes := 8) (a := a209) (c := c210) (sb := b235) (b1 := b222) (b2 := b223) (b3 := b228) (b4 := b229) (xs := [((slotAt i_ 0), 0), ((slotAt i_ 1), 0), ((slotAt i_ 2), 0), ((slotAt i_ 3), 0), ((descAt i_ 0), 0), (((descAt i_ 0) + 1), 0), ((descAt i_ 1), 0), (((descAt i_ 1) + 1), 0), ((descAt i_ 2), 0), (((descAt i_ 2) + 1), 0)]) (x := (descAt i_ 3)) (y := 0) (x' := ((descAt i_ 3) + 1)) (y' := 0) hs241 (by kernel_rfl) (by unfold maxLen; simp only [List.length_cons, List.length_nil]; omega) (by simp only [List.length_cons, List.length_nil]; omega) (fun a242 c243 w244 hs245 => ?_)
  have hs246 : St B w l0 w244 [stepsA a242 c243 ([((slotAt i_ 0), 0), ((slotAt i_ 1), 0), ((slotAt i_ 2), 0), ((slotAt i_ 3), 0), ((descAt i_ 0), 0), (((descAt i_ 0) + 1), 0), ((descAt i_ 1), 0), (((descAt i_ 1) + 1), 0), ((descAt i_ 2), 0), (((descAt i_ 2) + 1), 0), ((descAt i_ 3), 0), (((descAt i_ 3) + 1), 0)]), viewA (ptr vb) img l] := hs245
  refine zE 1 ?_
  refine normal_block ?_
  refine hK216 _ _ ?_
  refine W.region ?_
  refine zE 2 ?_
  refine loopAt_next ?_
  refine loopAt_round ?_
  refine W.sr fun K247 hK247 => ?_
  refine zE 1 (hK247 _ _ ?_)
  refine W.seq fun K248 hK248 => ?_
  refine W.cond_false false (by kernel_rfl) rfl ?_
  refine W.exit (exit_seq (exit_seq (exit_here ?_)))
  refine hK113 _ _ ?_
  refine W.sr fun K249 hK249 => ?_
  refine zR 2 ?_
  obtain ⟨r250, h251, hm⟩ := bind_some hm
  replace h251 := some_inj h251
  have hs254 := St.f1 hs246
  refine ops_call2 hs254 (by kernel_rfl) (row_spec (b := vb) (img := img) (l := l) (a := a242) (c := c243) (n := [((slotAt i_ 0), 0), ((slotAt i_ 1), 0), ((slotAt i_ 2), 0), ((slotAt i_ 3), 0), ((descAt i_ 0), 0), (((descAt i_ 0) + 1), 0), ((descAt i_ 1), 0), (((descAt i_ 1) + 1), 0), ((descAt i_ 2), 0), (((descAt i_ 2) + 1), 0), ((descAt i_ 3), 0), (((descAt i_ 3) + 1), 0)].length) (xs := [((slotAt i_ 0), 0), ((slotAt i_ 1), 0), ((slotAt i_ 2), 0), ((slotAt i_ 3), 0), ((descAt i_ 0), 0), (((descAt i_ 0) + 1), 0), ((descAt i_ 1), 0), (((descAt i_ 1) + 1), 0), ((descAt i_ 2), 0), (((descAt i_ 2) + 1), 0), ((descAt i_ 3), 0), (((descAt i_ 3) + 1), 0)]) (hn := rfl) (hsz := (by simp only [List.length_cons, List.length_nil]; omega)) B _) ?_
  rintro _ _ w255 ⟨hv252, hH253⟩ hs256
  rw [h251] at hv252
  try rw [h251] at hH253
  subst hv252 hH253
  have hs257 := St.ap1 hs256
  refine zE 1 (hK249 _ _ ?_)
  refine W.ret ?_
  obtain rfl := some_inj hm
  refine ret_of (.int .i64 r250.1) (by kernel_rfl) ⟨_, ⟨rfl, rfl⟩, hs257⟩
 ·
  have h10p : ¬ (r3.2 = 0) := of_decide_eq_false (bnot_true h10)
  replace hm := ite_no hm h10p
  refine W.sr fun K258 hK258 => ?_
  refine zE 2 (hK258 _ _ ?_)
  refine W.ret (ret_seq ?_)
  obtain rfl := some_inj hm
  refine ret_of (.int .i64 r3.2) (by kernel_rfl) ⟨_, ⟨rfl, rfl⟩, hs7⟩

theorem sget_nil {i_ : Int} (B : Nat) (w : World) (hL : CellsAt (some ⟨1, 0, none⟩) [(.int .i64 1), (.int .i64 2), (.int .i64 2)] w) : Spec Tryd.prog 30 #[(.pointer none), (.int .i64 i_)] B w [] (fun v H' => v = (.tuple #[(.agg #[(.bool false), (.int .u64 0), (.int .u64 0)]), (.int .i64 2)]) ∧ H' = []) := by
 refine spec_Q Tryd.func30 rfl fun hs => ?_
 refine W.sr fun K1 hK1 => ?_
 refine zN [(.bool false), (.int .u64 0), (.int .u64 0)] 48 hs fun b4 w2 hs3 => ?_
 refine zE 1 (hK1 _ _ ?_)
 refine W.sr fun K5 hK5 => ?_
 refine zR 2 ?_
 refine zC00 hs3 (ssess_nil (hL := (hs3.oldCells hL)) (i_ := i_) B _) fun w6 hs8 => ?_
 refine zE 5 (hK5 _ _ ?_)
 refine W.seq fun K9 hK9 => ?_
 refine W.sr fun K10 hK10 => ?_
 refine zE 2 (hK10 _ _ ?_)
 refine W.cond_true true (by kernel_rfl) rfl ?_
 refine W.sr fun K11 hK11 => ?_
 refine zR 2 ?_
 refine ops_store (off := 0) (cs := [(.bool false), (.int .u64 0), (.int .u64 0)]) (vs := [(.bool false), (.int .u64 0), (.int .u64 0)]) hs8 (by kernel_rfl) (by simp) rfl (fun w12 hs13 => ?_)
 have hs14 : St B w [] w12 [blk b4 (.cells [(.bool false), (.int .u64 0), (.int .u64 0)].toArray 48 (0, 0))] := hs13
 refine zE 1 (hK11 _ _ ?_)
 refine W.ret (ret_seq ?_)
 have hs15 := St.tk0 hs14
 refine ret_of (.tuple #[(.agg #[(.bool false), (.int .u64 0), (.int .u64 0)]), (.int .i64 2)]) (results_cell2 (ad := ⟨b4, 0, none⟩) (cs := [(.bool false), (.int .u64 0), (.int .u64 0)]) rfl (by kernel_rfl) (by kernel_rfl) (by kernel_rfl) (cells_sub (hs14.heapAt 0 rfl) rfl)) ⟨_, ⟨rfl, rfl⟩, hs15⟩

theorem sput_nil {i_ : Int} {ho_ : Bool} {hg_ hk_ : Int} (B : Nat) (w : World) (hL : CellsAt (some ⟨1, 0, none⟩) [(.int .i64 1), (.int .i64 2), (.int .i64 2)] w) : Spec Tryd.prog 32 #[(.pointer none), (.int .i64 i_), (.agg #[(.bool ho_), (.int .u64 hg_), (.int .u64 hk_)])] B w [] (fun v H' => v = (.int .i64 2) ∧ H' = []) := by
 refine spec_Q Tryd.func32 rfl fun hs => ?_
 refine W.sr fun K1 hK1 => ?_
 refine zN [(.bool ho_), (.int .u64 hg_), (.int .u64 hk_)] 48 hs fun b4 w2 hs3 => ?_
 refine zE 1 (hK1 _ _ ?_)
 refine W.sr fun K5 hK5 => ?_
 refine zR 2 ?_
 refine zC00 hs3 (ssess_nil (hL := (hs3.oldCells hL)) (i_ := i_) B _) fun w6 hs8 => ?_
 refine zE 5 (hK5 _ _ ?_)
 refine W.seq fun K9 hK9 => ?_
 refine W.sr fun K10 hK10 => ?_
 refine zE 2 (hK10 _ _ ?_)
 refine W.cond_true true (by kernel_rfl) rfl ?_
 refine W.sr fun K11 hK11 => ?_
 refine zE 2 (hK11 _ _ ?_)
 refine W.ret (ret_seq ?_)
 have hs12 := St.tk0 hs8
 refine ret_of (.int .i64 2) (by kernel_rfl) ⟨_, ⟨rfl, rfl⟩, hs12⟩

theorem swipe_nil {i_ : Int} (B : Nat) (w : World) (hL : CellsAt (some ⟨1, 0, none⟩) [(.int .i64 1), (.int .i64 2), (.int .i64 2)] w) : Spec Tryd.prog 34 #[(.pointer none), (.int .i64 i_)] B w [] (fun v H' => v = (.int .i64 2) ∧ H' = []) := by
 refine spec_Q Tryd.func34 rfl fun hs => ?_
 refine W.sr fun K1 hK1 => ?_
 refine zE 1 (hK1 _ _ ?_)
 refine W.sr fun K2 hK2 => ?_
 refine zR 2 ?_
 refine zC00 hs (ssess_nil (hL := (hs.oldCells hL)) (i_ := i_) B _) fun w3 hs5 => ?_
 refine zE 5 (hK2 _ _ ?_)
 refine W.seq fun K6 hK6 => ?_
 refine W.sr fun K7 hK7 => ?_
 refine zE 2 (hK7 _ _ ?_)
 refine W.cond_true true (by kernel_rfl) rfl ?_
 refine W.sr fun K8 hK8 => ?_
 refine zE 2 (hK8 _ _ ?_)
 refine W.ret (ret_seq ?_)
 refine ret_of (.int .i64 2) (by kernel_rfl) ⟨_, ⟨rfl, rfl⟩, hs5⟩

end Go.Proofs.YthimamnblklkbaaDoor
