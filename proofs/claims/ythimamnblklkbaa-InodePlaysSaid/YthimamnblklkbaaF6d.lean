/- Contracts of layers 6 and 7, by a program. -/
import Derived.Test.YthimamnblklkbaaF6c
namespace Go.Proofs.Ythimamnblklkbaa
open Go Go.RowKit
set_option linter.unusedSimpArgs false
set_option linter.unusedVariables false

set_option maxRecDepth 20000 in
theorem max5_spec {ma : Option Addr} {mc : Nat} {a_ b_ c_ d_ e_ : Int} (B : Nat) (w : World) (hm : CellsAt ma (kU64.cells [a_, b_, c_, d_, e_]) w) : Spec Try.prog 49 #[(.slice ma 5 mc)] B w [] (fun v H' => v = .int .u64 (mx (mx (mx (mx a_ b_) c_) d_) e_) ∧ H' = []) := by
  refine spec_Q Try.func49 rfl fun hs => ?_
  refine W.seq fun K1 hK1 => ?_
  refine W.region ?_
  refine ops_run 1 (by kernel_rfl) ?_
  refine ops_done (by kernel_rfl) ?_
  refine hK1 _ _ ?_
  clear hK1
  refine W.seq fun K2 hK2 => ?_
  refine W.seq fun K3 hK3 => ?_
  refine W.region ?_
  refine ops_run 3 (by kernel_rfl) ?_
  refine ops_done (by kernel_rfl) ?_
  refine hK3 _ _ ?_
  clear hK3
  refine W.cond_false false (by kernel_rfl) rfl ?_
  refine W.skip ?_
  refine hK2 _ _ ?_
  clear hK2
  refine W.seq fun K4 hK4 => ?_
  refine W.region ?_
  refine ops_run 1 (by kernel_rfl) ?_
  have hk5 : 0 < 5 := by omega
  refine ops_R (runs_index (a := ma) (n := 5) (z := 0) (size := 1) 0 rfl hk5 (kU64.addr (hs.oldCells hm) hk5) (by kernel_rfl)) ?_
  refine ops_R (runs_load (ad := ((adr ma (0 * 1)).add 0)) (v := (.int .u64 (([a_, b_, c_, d_, e_]).getD 0 0))) (by kernel_rfl) (kU64.at (hs.oldCells hm) hk5 0 0 rfl)) ?_
  refine ops_run 1 (by kernel_rfl) ?_
  refine ops_done (by kernel_rfl) ?_
  refine hK4 _ _ ?_
  clear hK4
  refine W.seq fun K6 hK6 => ?_
  refine W.seq fun K7 hK7 => ?_
  refine W.region ?_
  refine ops_run 1 (by kernel_rfl) ?_
  refine ops_done (by kernel_rfl) ?_
  refine hK7 _ _ ?_
  clear hK7
  refine W.block ?_
  refine W.loop_start ?_
  refine loopAt_round ?_
  refine W.seq fun K8 hK8 => ?_
  refine W.seq fun K9 hK9 => ?_
  refine W.region ?_
  refine ops_run 4 (by kernel_rfl) ?_
  refine ops_done (by kernel_rfl) ?_
  refine hK9 _ _ ?_
  clear hK9
  refine W.cond_true true (by kernel_rfl) rfl ?_
  refine W.skip ?_
  refine hK8 _ _ ?_
  clear hK8
  refine W.seq fun K10 hK10 => ?_
  refine W.block ?_
  refine W.region ?_
  refine ops_run 3 (by kernel_rfl) ?_
  have hk11 : 1 < 5 := by omega
  refine ops_R (runs_index (a := ma) (n := 5) (z := 1) (size := 1) 1 rfl hk11 (kU64.addr (hs.oldCells hm) hk11) (by kernel_rfl)) ?_
  refine ops_R (runs_load (ad := ((adr ma (1 * 1)).add 0)) (v := (.int .u64 (([a_, b_, c_, d_, e_]).getD 1 0))) (by kernel_rfl) (kU64.at (hs.oldCells hm) hk11 0 0 rfl)) ?_
  refine ops_run 2 (by kernel_rfl) ?_
  refine ops_done (by kernel_rfl) ?_
  refine normal_block ?_
  refine hK10 _ _ ?_
  clear hK10
  refine W.region ?_
  refine ops_run 3 (by kernel_rfl) ?_
  refine ops_done (by kernel_rfl) ?_
  refine loopAt_next ?_
  refine loopAt_round ?_
  refine W.seq fun K12 hK12 => ?_
  refine W.seq fun K13 hK13 => ?_
  refine W.region ?_
  refine ops_run 4 (by kernel_rfl) ?_
  refine ops_done (by kernel_rfl) ?_
  refine hK13 _ _ ?_
  clear hK13
  refine W.cond_true true (by kernel_rfl) rfl ?_
  refine W.skip ?_
  refine hK12 _ _ ?_
  clear hK12
  refine W.seq fun K14 hK14 => ?_
  refine W.block ?_
  refine W.region ?_
  refine ops_run 3 (by kernel_rfl) ?_
  have hk15 : 2 < 5 := by omega
  refine ops_R (runs_index (a := ma) (n := 5) (z := 2) (size := 1) 2 rfl hk15 (kU64.addr (hs.oldCells hm) hk15) (by kernel_rfl)) ?_
  refine ops_R (runs_load (ad := ((adr ma (2 * 1)).add 0)) (v := (.int .u64 (([a_, b_, c_, d_, e_]).getD 2 0))) (by kernel_rfl) (kU64.at (hs.oldCells hm) hk15 0 0 rfl)) ?_
  refine ops_run 2 (by kernel_rfl) ?_
  refine ops_done (by kernel_rfl) ?_
  refine normal_block ?_
  refine hK14 _ _ ?_
  clear hK14
  refine W.region ?_
  refine ops_run 3 (by kernel_rfl) ?_
  refine ops_done (by kernel_rfl) ?_
  refine loopAt_next ?_
  refine loopAt_round ?_
  refine W.seq fun K16 hK16 => ?_
  refine W.seq fun K17 hK17 => ?_
  refine W.region ?_
  refine ops_run 4 (by kernel_rfl) ?_
  refine ops_done (by kernel_rfl) ?_
  refine hK17 _ _ ?_
  clear hK17
  refine W.cond_true true (by kernel_rfl) rfl ?_
  refine W.skip ?_
  refine hK16 _ _ ?_
  clear hK16
  refine W.seq fun K18 hK18 => ?_
  refine W.block ?_
  refine W.region ?_
  refine ops_run 3 (by kernel_rfl) ?_
  have hk19 : 3 < 5 := by omega
  refine ops_R (runs_index (a := ma) (n := 5) (z := 3) (size := 1) 3 rfl hk19 (kU64.addr (hs.oldCells hm) hk19) (by kernel_rfl)) ?_
  refine ops_R (runs_load (ad := ((adr ma (3 * 1)).add 0)) (v := (.int .u64 (([a_, b_, c_, d_, e_]).getD 3 0))) (by kernel_rfl) (kU64.at (hs.oldCells hm) hk19 0 0 rfl)) ?_
  refine ops_run 2 (by kernel_rfl) ?_
  refine ops_done (by kernel_rfl) ?_
  refine normal_block ?_
  refine hK18 _ _ ?_
  clear hK18
  refine W.region ?_
  refine ops_run 3 (by kernel_rfl) ?_
  refine ops_done (by kernel_rfl) ?_
  refine loopAt_next ?_
  refine loopAt_round ?_
  refine W.seq fun K20 hK20 => ?_
  refine W.seq fun K21 hK21 => ?_
  refine W.region ?_
  refine ops_run 4 (by kernel_rfl) ?_
  refine ops_done (by kernel_rfl) ?_
  refine hK21 _ _ ?_
  clear hK21
  refine W.cond_true true (by kernel_rfl) rfl ?_
  refine W.skip ?_
  refine hK20 _ _ ?_
  clear hK20
  refine W.seq fun K22 hK22 => ?_
  refine W.block ?_
  refine W.region ?_
  refine ops_run 3 (by kernel_rfl) ?_
  have hk23 : 4 < 5 := by omega
  refine ops_R (runs_index (a := ma) (n := 5) (z := 4) (size := 1) 4 rfl hk23 (kU64.addr (hs.oldCells hm) hk23) (by kernel_rfl)) ?_
  refine ops_R (runs_load (ad := ((adr ma (4 * 1)).add 0)) (v := (.int .u64 (([a_, b_, c_, d_, e_]).getD 4 0))) (by kernel_rfl) (kU64.at (hs.oldCells hm) hk23 0 0 rfl)) ?_
  refine ops_run 2 (by kernel_rfl) ?_
  refine ops_done (by kernel_rfl) ?_
  refine normal_block ?_
  refine hK22 _ _ ?_
  clear hK22
  refine W.region ?_
  refine ops_run 3 (by kernel_rfl) ?_
  refine ops_done (by kernel_rfl) ?_
  refine loopAt_next ?_
  refine loopAt_round ?_
  refine W.seq fun K24 hK24 => ?_
  refine W.seq fun K25 hK25 => ?_
  refine W.region ?_
  refine ops_run 4 (by kernel_rfl) ?_
  refine ops_done (by kernel_rfl) ?_
  refine hK25 _ _ ?_
  clear hK25
  refine W.cond_false false (by kernel_rfl) rfl ?_
  refine W.exit (exit_seq (exit_seq (exit_here ?_)))
  refine hK6 _ _ ?_
  clear hK6
  refine W.seq fun K26 hK26 => ?_
  refine W.region ?_
  refine ops_run 2 (by kernel_rfl) ?_
  refine ops_done (by kernel_rfl) ?_
  refine hK26 _ _ ?_
  clear hK26
  refine W.ret ?_
  refine ret_of (.int .u64 (mx (mx (mx (mx (([a_, b_, c_, d_, e_]).getD 0 0) (([a_, b_, c_, d_, e_]).getD 1 0)) (([a_, b_, c_, d_, e_]).getD 2 0)) (([a_, b_, c_, d_, e_]).getD 3 0)) (([a_, b_, c_, d_, e_]).getD 4 0))) (by kernel_rfl) ⟨_, ⟨rfl, rfl⟩, hs⟩

set_option maxRecDepth 20000 in
set_option maxHeartbeats 1000000 in
theorem right_spec {gw gi gb : Int} {x_ : Nd} (B : Nat) (w : World) : Spec Try.prog 31 #[(.agg #[(.int .i64 gw), (.int .i64 gi), (.int .i64 gb)]), (.agg #[(.int .u64 x_.k), (.int .u64 x_.l), (.int .u64 x_.o), (.int .u64 x_.s), (.int .u64 x_.a), (.int .u64 x_.b), (.int .u64 x_.c), (.int .u64 x_.d), (.int .u64 x_.e), (.int .u64 x_.m)])] B w [] (fun v H' => v = .bool (decide (RightP gw gi gb x_)) ∧ H' = []) := by
  refine spec_Q Try.func31 rfl fun hs => ?_
  refine W.seq fun K1 hK1 => ?_
  refine W.region ?_
  refine ops_new (fun b => .pointer (some ⟨b, 0, none⟩)) (.cells [(.int .i64 gw), (.int .i64 gi), (.int .i64 gb)].toArray 56 (0, 0)) hs (by kernel_rfl) (fun b4 w2 hs3 => ?_)
  refine ops_new (fun b => .pointer (some ⟨b, 0, none⟩)) (.cells [(.int .u64 x_.k), (.int .u64 x_.l), (.int .u64 x_.o), (.int .u64 x_.s), (.int .u64 x_.a), (.int .u64 x_.b), (.int .u64 x_.c), (.int .u64 x_.d), (.int .u64 x_.e), (.int .u64 x_.m)].toArray 54 (0, 0)) hs3 (by kernel_rfl) (fun b7 w5 hs6 => ?_)
  refine ops_run 1 (by kernel_rfl) ?_
  refine ops_done (by kernel_rfl) ?_
  refine hK1 _ _ ?_
  clear hK1
  refine W.seq fun K8 hK8 => ?_
  refine W.seq fun K9 hK9 => ?_
  refine W.region ?_
  refine ops_R (runs_loadAgg (ad := ⟨b4, 0, none⟩) (cs := [(.int .i64 gw), (.int .i64 gi), (.int .i64 gb)]) (by kernel_rfl) (cells_sub (hs6.heapAt 1 rfl) rfl)) ?_
  refine ops_call (pre := []) hs6 (by kernel_rfl) (may_spec (gw := gw) (gi := gi) (gb := gb) B _) ?_
  rintro _ _ w10 ⟨rfl, rfl⟩ hs11
  have hs12 : St B w [] w10 [blk b7 (.cells [(.int .u64 x_.k), (.int .u64 x_.l), (.int .u64 x_.o), (.int .u64 x_.s), (.int .u64 x_.a), (.int .u64 x_.b), (.int .u64 x_.c), (.int .u64 x_.d), (.int .u64 x_.e), (.int .u64 x_.m)].toArray 54 (0, 0)), blk b4 (.cells [(.int .i64 gw), (.int .i64 gi), (.int .i64 gb)].toArray 56 (0, 0))] := hs11
  refine ops_run 2 (by kernel_rfl) ?_
  rcases Bool.eq_false_or_eq_true (!(decide (May gw gi gb))) with h13 | h13
  ·
    have h13p : ¬ (May gw gi gb) := of_decide_eq_false (bnot_true h13)
    refine ops_set 9 (v := .bool true) (eq_bool_of (by kernel_rfl) h13) ?_
    refine ops_set 8 (v := .bool true) (eq_bool_of (by kernel_rfl) h13) ?_
    refine ops_run 4 (by kernel_rfl) ?_
    refine ops_done (by kernel_rfl) ?_
    refine hK9 _ _ ?_
    clear hK9
    refine W.cond_true true (by kernel_rfl) rfl ?_
    refine W.seq fun K14 hK14 => ?_
    refine W.region ?_
    refine ops_run 1 (by kernel_rfl) ?_
    refine ops_done (by kernel_rfl) ?_
    refine hK14 _ _ ?_
    clear hK14
    refine W.ret (ret_seq ?_)
    have hs15 : St B w [] w10 [] := St.take (H := []) hs12
    refine ret_of (.bool false) (by kernel_rfl) ⟨_, ⟨congrArg Value.bool (decide_eq_false (by first | (intro q; exact absurd q.1 (by assumption)) | ((try simp only [mx_lt, le_mx, ge_iff_le, Int.not_le] at *); simp only [RightP]; omega))).symm, rfl⟩, hs15⟩
  ·
    have h13p : May gw gi gb := of_decide_eq_true (bnot_false h13)
    have hm : May gw gi gb := h13p
    have hm_ : (1 ≤ gw ∧ gw ≤ 4) ∧ (2 ≤ gi ∧ gi ≤ 64) ∧ (2 ≤ gb ∧ gb ≤ 512) := hm
    refine ops_set 9 (v := .bool false) (eq_bool_of (by kernel_rfl) h13) ?_
    refine ops_set 8 (v := .bool false) (eq_bool_of (by kernel_rfl) h13) ?_
    refine ops_R (runs_loadAgg (ad := ⟨b7, 0, none⟩) (cs := [(.int .u64 x_.k), (.int .u64 x_.l), (.int .u64 x_.o), (.int .u64 x_.s), (.int .u64 x_.a), (.int .u64 x_.b), (.int .u64 x_.c), (.int .u64 x_.d), (.int .u64 x_.e), (.int .u64 x_.m)]) (by kernel_rfl) (cells_sub (hs12.heapAt 0 rfl) rfl)) ?_
    refine ops_run 1 (by kernel_rfl) ?_
    refine ops_R (v := (.bool ((decide (x_.k = 0)) && ((decide (x_.l = 0)) && ((decide (x_.o = 0)) && ((decide (x_.s = 0)) && (((decide (x_.a = 0)) && ((decide (x_.b = 0)) && ((decide (x_.c = 0)) && ((decide (x_.d = 0)) && true)))) && ((decide (x_.e = 0)) && ((decide (x_.m = 0)) && true))))))))) (runs_eq (b := ((decide (x_.k = 0)) && ((decide (x_.l = 0)) && ((decide (x_.o = 0)) && ((decide (x_.s = 0)) && (((decide (x_.a = 0)) && ((decide (x_.b = 0)) && ((decide (x_.c = 0)) && ((decide (x_.d = 0)) && true)))) && ((decide (x_.e = 0)) && ((decide (x_.m = 0)) && true)))))))) (by kernel_rfl)) ?_
    refine ops_run 1 (by kernel_rfl) ?_
    refine ops_done (by kernel_rfl) ?_
    refine hK9 _ _ ?_
    clear hK9
    refine W.cond ((decide (x_.k = 0)) && ((decide (x_.l = 0)) && ((decide (x_.o = 0)) && ((decide (x_.s = 0)) && (((decide (x_.a = 0)) && ((decide (x_.b = 0)) && ((decide (x_.c = 0)) && ((decide (x_.d = 0)) && true)))) && ((decide (x_.e = 0)) && ((decide (x_.m = 0)) && true))))))) (by kernel_rfl) (fun h16 => ?_) (fun h16 => ?_)
    ·
      have h16p : x_.k = 0 ∧ x_.l = 0 ∧ x_.o = 0 ∧ x_.s = 0 ∧ (x_.a = 0 ∧ x_.b = 0 ∧ x_.c = 0 ∧ x_.d = 0) ∧ x_.e = 0 ∧ x_.m = 0 := by simpa using h16
      refine W.seq fun K17 hK17 => ?_
      refine W.region ?_
      refine ops_run 1 (by kernel_rfl) ?_
      refine ops_done (by kernel_rfl) ?_
      refine hK17 _ _ ?_
      clear hK17
      refine W.ret (ret_seq ?_)
      have hs18 : St B w [] w10 [] := St.take (H := []) hs12
      refine ret_of (.bool false) (by kernel_rfl) ⟨_, ⟨congrArg Value.bool (decide_eq_false (by first | (intro q; exact absurd q.1 (by assumption)) | ((try simp only [mx_lt, le_mx, ge_iff_le, Int.not_le] at *); simp only [RightP]; omega))).symm, rfl⟩, hs18⟩
    ·
      have h16p : ¬ (x_.k = 0 ∧ x_.l = 0 ∧ x_.o = 0 ∧ x_.s = 0 ∧ (x_.a = 0 ∧ x_.b = 0 ∧ x_.c = 0 ∧ x_.d = 0) ∧ x_.e = 0 ∧ x_.m = 0) := by simpa using h16
      refine W.skip ?_
      refine hK8 _ _ ?_
      clear hK8
      refine W.seq fun K19 hK19 => ?_
      have hs20 := hs12.drew
      refine W.regionD [(0, 0), (1, 1), (0, 0), (4, 4), (8, 8), (18, 18), (63, 32)] (fun w_ => St B w [] w_ [blk b7 (.cells [(.int .u64 x_.k), (.int .u64 x_.l), (.int .u64 x_.o), (.int .u64 x_.s), (.int .u64 x_.a), (.int .u64 x_.b), (.int .u64 x_.c), (.int .u64 x_.d), (.int .u64 x_.e), (.int .u64 x_.m)].toArray 54 (0, 0)), blk b4 (.cells [(.int .i64 gw), (.int .i64 gi), (.int .i64 gb)].toArray 56 (0, 0))]) (by kernel_rfl) hs20 ?_
      refine any_val (v := (.pointer (some ⟨b7, 4, none⟩))) (v' := (.pointer (some ⟨b7, 4, none⟩))) 0 (by kernel_rfl) (fun _ => by kernel_rfl) rfl hs20 ?_
      refine any_val (v := (.slice (some ⟨b7, 4, none⟩) 4 4)) (v' := (.slice (some ⟨b7, 4, none⟩) 4 4)) 1 (by kernel_rfl) (fun _ => by kernel_rfl) rfl hs20 ?_
      refine any_val (v := (.pointer (some ⟨b7, 8, none⟩))) (v' := (.pointer (some ⟨b7, 8, none⟩))) 2 (by kernel_rfl) (fun _ => by kernel_rfl) rfl hs20 ?_
      refine any_R 3 (by kernel_rfl) (fun _ hS_ => runs_load (ad := ⟨b7, 8, none⟩) (v := (.int .u64 x_.e)) (by kernel_rfl) (hS_.cellAt 0 rfl rfl)) hs20 ?_
      refine any_step 4 (by kernel_rfl) (by kernel_rfl) ?_
      refine ops_new (fun b => .slice (some ⟨b, 0, none⟩) 1 1) (.cells [(.int .u64 x_.e)].toArray 33 (0, 0)) hs20 (by kernel_rfl) (fun b23 w21 hs22 => ?_)
      have hs24 : St B w [] w21 [blk b4 (.cells [(.int .i64 gw), (.int .i64 gi), (.int .i64 gb)].toArray 56 (0, 0)), blk b23 (.cells [(.int .u64 x_.e)].toArray 33 (0, 0)), blk b7 (.cells [(.int .u64 x_.k), (.int .u64 x_.l), (.int .u64 x_.o), (.int .u64 x_.s), (.int .u64 x_.a), (.int .u64 x_.b), (.int .u64 x_.c), (.int .u64 x_.d), (.int .u64 x_.e), (.int .u64 x_.m)].toArray 54 (0, 0))] := hs22.front 2 (by simp)
      have hs25 : St B w [] w21 [blk b7 (.cells [(.int .u64 x_.k), (.int .u64 x_.l), (.int .u64 x_.o), (.int .u64 x_.s), (.int .u64 x_.a), (.int .u64 x_.b), (.int .u64 x_.c), (.int .u64 x_.d), (.int .u64 x_.e), (.int .u64 x_.m)].toArray 54 (0, 0)), blk b4 (.cells [(.int .i64 gw), (.int .i64 gi), (.int .i64 gb)].toArray 56 (0, 0)), blk b23 (.cells [(.int .u64 x_.e)].toArray 33 (0, 0))] := hs24.front 2 (by simp)
      have hs26 : St B w [] w21 [blk b7 (.cells [(.int .u64 x_.k), (.int .u64 x_.l), (.int .u64 x_.o), (.int .u64 x_.s), (.int .u64 x_.a), (.int .u64 x_.b), (.int .u64 x_.c), (.int .u64 x_.d), (.int .u64 x_.e), (.int .u64 x_.m)].toArray 54 (0, 0)), blk b4 (.cells [(.int .i64 gw), (.int .i64 gi), (.int .i64 gb)].toArray 56 (0, 0))] := St.take (H := [blk b7 (.cells [(.int .u64 x_.k), (.int .u64 x_.l), (.int .u64 x_.o), (.int .u64 x_.s), (.int .u64 x_.a), (.int .u64 x_.b), (.int .u64 x_.c), (.int .u64 x_.d), (.int .u64 x_.e), (.int .u64 x_.m)].toArray 54 (0, 0)), blk b4 (.cells [(.int .i64 gw), (.int .i64 gi), (.int .i64 gb)].toArray 56 (0, 0))]) hs25
      refine ops_done (by kernel_rfl) ⟨hs26, ?_⟩
      refine any_step 5 (by kernel_rfl) (by kernel_rfl) ?_
      refine ops_appendGrow (e := kU64.e) (size := 1) (bytes := 8) (n := 4) (c := 4) (m := 1) (c' := 1) (olds := [(.int .u64 x_.a), (.int .u64 x_.b), (.int .u64 x_.c), (.int .u64 x_.d)]) (news := [(.int .u64 x_.e)]) hs22 (by kernel_rfl) rfl (cells_sub (off := 4) (hs22.heapAt 1 rfl) rfl) rfl (cells_sub (off := 0) (hs22.heapAt 0 rfl) rfl) (by decide) (by decide) (by decide) (fun a27 c28 w29 hs30 => ?_)
      have hs31 : St B w [] w29 [kU64.row a27 c28 ([x_.a, x_.b, x_.c, x_.d, x_.e]), blk b23 (.cells [(.int .u64 x_.e)].toArray 33 (0, 0)), blk b7 (.cells [(.int .u64 x_.k), (.int .u64 x_.l), (.int .u64 x_.o), (.int .u64 x_.s), (.int .u64 x_.a), (.int .u64 x_.b), (.int .u64 x_.c), (.int .u64 x_.d), (.int .u64 x_.e), (.int .u64 x_.m)].toArray 54 (0, 0)), blk b4 (.cells [(.int .i64 gw), (.int .i64 gi), (.int .i64 gb)].toArray 56 (0, 0))] := hs30
      have hs32 : St B w [] w29 [blk b4 (.cells [(.int .i64 gw), (.int .i64 gi), (.int .i64 gb)].toArray 56 (0, 0)), kU64.row a27 c28 ([x_.a, x_.b, x_.c, x_.d, x_.e]), blk b23 (.cells [(.int .u64 x_.e)].toArray 33 (0, 0)), blk b7 (.cells [(.int .u64 x_.k), (.int .u64 x_.l), (.int .u64 x_.o), (.int .u64 x_.s), (.int .u64 x_.a), (.int .u64 x_.b), (.int .u64 x_.c), (.int .u64 x_.d), (.int .u64 x_.e), (.int .u64 x_.m)].toArray 54 (0, 0))] := hs31.front 3 (by simp)
      have hs33 : St B w [] w29 [blk b7 (.cells [(.int .u64 x_.k), (.int .u64 x_.l), (.int .u64 x_.o), (.int .u64 x_.s), (.int .u64 x_.a), (.int .u64 x_.b), (.int .u64 x_.c), (.int .u64 x_.d), (.int .u64 x_.e), (.int .u64 x_.m)].toArray 54 (0, 0)), blk b4 (.cells [(.int .i64 gw), (.int .i64 gi), (.int .i64 gb)].toArray 56 (0, 0)), kU64.row a27 c28 ([x_.a, x_.b, x_.c, x_.d, x_.e]), blk b23 (.cells [(.int .u64 x_.e)].toArray 33 (0, 0))] := hs32.front 3 (by simp)
      have hs34 : St B w [] w29 [blk b7 (.cells [(.int .u64 x_.k), (.int .u64 x_.l), (.int .u64 x_.o), (.int .u64 x_.s), (.int .u64 x_.a), (.int .u64 x_.b), (.int .u64 x_.c), (.int .u64 x_.d), (.int .u64 x_.e), (.int .u64 x_.m)].toArray 54 (0, 0)), blk b4 (.cells [(.int .i64 gw), (.int .i64 gi), (.int .i64 gb)].toArray 56 (0, 0))] := St.take (H := [blk b7 (.cells [(.int .u64 x_.k), (.int .u64 x_.l), (.int .u64 x_.o), (.int .u64 x_.s), (.int .u64 x_.a), (.int .u64 x_.b), (.int .u64 x_.c), (.int .u64 x_.d), (.int .u64 x_.e), (.int .u64 x_.m)].toArray 54 (0, 0)), blk b4 (.cells [(.int .i64 gw), (.int .i64 gi), (.int .i64 gb)].toArray 56 (0, 0))]) hs33
      refine ops_done (by kernel_rfl) ⟨hs34, ?_⟩
      refine any_val (v := (.slice a27 5 c28)) (v' := (.slice a27 5 c28)) 6 (by kernel_rfl) (fun _ => by kernel_rfl) rfl hs34 ?_
      refine any_done (by kernel_rfl) ?_
      refine hK19 _ _ ?_
      clear hK19
      refine W.seq fun K35 hK35 => ?_
      refine W.seq fun K36 hK36 => ?_
      have hs37 := hs31.drew
      refine W.regionD [(0, 0), (1, 1), (0, 0), (4, 4), (8, 8), (18, 18), (34, 32), (64, 64), (192, 192), (64, 64), (576, 576), (1088, 1088), (2368, 2368), (4160, 4160)] (fun w_ => St B w [] w_ [kU64.row a27 c28 ([x_.a, x_.b, x_.c, x_.d, x_.e]), blk b23 (.cells [(.int .u64 x_.e)].toArray 33 (0, 0)), blk b7 (.cells [(.int .u64 x_.k), (.int .u64 x_.l), (.int .u64 x_.o), (.int .u64 x_.s), (.int .u64 x_.a), (.int .u64 x_.b), (.int .u64 x_.c), (.int .u64 x_.d), (.int .u64 x_.e), (.int .u64 x_.m)].toArray 54 (0, 0)), blk b4 (.cells [(.int .i64 gw), (.int .i64 gi), (.int .i64 gb)].toArray 56 (0, 0))]) (by kernel_rfl) hs37 ?_
      refine any_val (v := (.slice a27 5 c28)) (v' := (.slice a27 5 c28)) 0 (by kernel_rfl) (fun _ => by kernel_rfl) rfl hs37 ?_
      refine any_val (v := (.pointer (some ⟨b4, 2, none⟩))) (v' := (.pointer (some ⟨b4, 2, none⟩))) 2 (by kernel_rfl) (fun _ => by kernel_rfl) rfl hs37 ?_
      refine any_R 3 (by kernel_rfl) (fun _ hS_ => runs_load (ad := ⟨b4, 2, none⟩) (v := (.int .i64 gb)) (by kernel_rfl) (hS_.cellAt 3 rfl rfl)) hs37 ?_
      refine any_val (v := .int .u64 (IntKind.u64.wrap gb)) (v' := .int .u64 gb) 4 (by kernel_rfl) (fun _ => by kernel_rfl) (congrArg (Value.int .u64) (wrap_u64 (by omega) (by omega))) hs37 ?_
      refine any_step 1 (by kernel_rfl) (by kernel_rfl) ?_
      refine ops_call (pre := []) hs37 (by kernel_rfl) (max5_spec (mc := c28) (a_ := x_.a) (b_ := x_.b) (c_ := x_.c) (d_ := x_.d) (e_ := x_.e) (hm := (St.kcells kU64 hs37 0 rfl)) B _) ?_
      rintro _ _ w38 ⟨rfl, rfl⟩ hs39
      have hs40 : St B w [] w38 [kU64.row a27 c28 ([x_.a, x_.b, x_.c, x_.d, x_.e]), blk b23 (.cells [(.int .u64 x_.e)].toArray 33 (0, 0)), blk b7 (.cells [(.int .u64 x_.k), (.int .u64 x_.l), (.int .u64 x_.o), (.int .u64 x_.s), (.int .u64 x_.a), (.int .u64 x_.b), (.int .u64 x_.c), (.int .u64 x_.d), (.int .u64 x_.e), (.int .u64 x_.m)].toArray 54 (0, 0)), blk b4 (.cells [(.int .i64 gw), (.int .i64 gi), (.int .i64 gb)].toArray 56 (0, 0))] := hs39
      refine ops_done (by kernel_rfl) ⟨hs40, ?_⟩
      refine any_val (v := (.bool (decide ((mx (mx (mx (mx x_.a x_.b) x_.c) x_.d) x_.e) ≥ gb)))) (v' := (.bool (decide ((mx (mx (mx (mx x_.a x_.b) x_.c) x_.d) x_.e) ≥ gb)))) 5 (by kernel_rfl) (fun _ => by kernel_rfl) rfl hs40 ?_
      refine any_val (v := (.bool (decide ((mx (mx (mx (mx x_.a x_.b) x_.c) x_.d) x_.e) ≥ gb)))) (v' := (.bool (decide ((mx (mx (mx (mx x_.a x_.b) x_.c) x_.d) x_.e) ≥ gb)))) 6 (by kernel_rfl) (fun _ => by kernel_rfl) rfl hs40 ?_
      rcases Bool.eq_false_or_eq_true (decide ((mx (mx (mx (mx x_.a x_.b) x_.c) x_.d) x_.e) ≥ gb)) with h41 | h41
      ·
        have h41p : (mx (mx (mx (mx x_.a x_.b) x_.c) x_.d) x_.e) ≥ gb := of_decide_eq_true h41
        refine any_set 25 (v := .bool true) (eq_bool_of (by kernel_rfl) h41) ?_
        refine any_set 26 (v := .bool true) (eq_bool_of (by kernel_rfl) h41) ?_
        refine any_skip 7 (by kernel_rfl) (by kernel_rfl) hs40 ?_
        refine any_skip 8 (by kernel_rfl) (by kernel_rfl) hs40 ?_
        refine any_skip 9 (by kernel_rfl) (by kernel_rfl) hs40 ?_
        refine any_skip 10 (by kernel_rfl) (by kernel_rfl) hs40 ?_
        refine any_skip 11 (by kernel_rfl) (by kernel_rfl) hs40 ?_
        refine any_skip 12 (by kernel_rfl) (by kernel_rfl) hs40 ?_
        refine any_val (v := (.bool true)) (v' := (.bool true)) 13 (by kernel_rfl) (fun _ => by kernel_rfl) rfl hs40 ?_
        refine any_done (by kernel_rfl) ?_
        refine hK36 _ _ ?_
        clear hK36
        refine W.cond_true true (by kernel_rfl) rfl ?_
        refine W.seq fun K42 hK42 => ?_
        refine W.region ?_
        refine ops_run 1 (by kernel_rfl) ?_
        refine ops_done (by kernel_rfl) ?_
        refine hK42 _ _ ?_
        clear hK42
        refine W.ret (ret_seq ?_)
        have hs43 : St B w [] w38 [] := St.take (H := []) hs40
        refine ret_of (.bool false) (by kernel_rfl) ⟨_, ⟨congrArg Value.bool (decide_eq_false (by first | (intro q; exact absurd q.1 (by assumption)) | ((try simp only [mx_lt, le_mx, ge_iff_le, Int.not_le] at *); simp only [RightP]; omega))).symm, rfl⟩, hs43⟩
      ·
        have h41p : ¬ ((mx (mx (mx (mx x_.a x_.b) x_.c) x_.d) x_.e) ≥ gb) := of_decide_eq_false h41
        refine any_set 25 (v := .bool false) (eq_bool_of (by kernel_rfl) h41) ?_
        refine any_set 26 (v := .bool false) (eq_bool_of (by kernel_rfl) h41) ?_
        refine any_val (v := (.pointer (some ⟨b7, 9, none⟩))) (v' := (.pointer (some ⟨b7, 9, none⟩))) 7 (by kernel_rfl) (fun _ => by kernel_rfl) rfl hs40 ?_
        refine any_R 8 (by kernel_rfl) (fun _ hS_ => runs_load (ad := ⟨b7, 9, none⟩) (v := (.int .u64 x_.m)) (by kernel_rfl) (hS_.cellAt 2 rfl rfl)) hs40 ?_
        refine any_val (v := (.pointer (some ⟨b4, 1, none⟩))) (v' := (.pointer (some ⟨b4, 1, none⟩))) 9 (by kernel_rfl) (fun _ => by kernel_rfl) rfl hs40 ?_
        refine any_R 10 (by kernel_rfl) (fun _ hS_ => runs_load (ad := ⟨b4, 1, none⟩) (v := (.int .i64 gi)) (by kernel_rfl) (hS_.cellAt 3 rfl rfl)) hs40 ?_
        refine any_val (v := .int .u64 (IntKind.u64.wrap gi)) (v' := .int .u64 gi) 11 (by kernel_rfl) (fun _ => by kernel_rfl) (congrArg (Value.int .u64) (wrap_u64 (by omega) (by omega))) hs40 ?_
        refine any_val (v := (.bool (decide (x_.m ≥ gi)))) (v' := (.bool (decide (x_.m ≥ gi)))) 12 (by kernel_rfl) (fun _ => by kernel_rfl) rfl hs40 ?_
        refine any_val (v := (.bool (decide (x_.m ≥ gi)))) (v' := (.bool (decide (x_.m ≥ gi)))) 13 (by kernel_rfl) (fun _ => by kernel_rfl) rfl hs40 ?_
        refine any_done (by kernel_rfl) ?_
        refine hK36 _ _ ?_
        clear hK36
        refine W.cond (decide (x_.m ≥ gi)) (by kernel_rfl) (fun h44 => ?_) (fun h44 => ?_)
        ·
          have h44p : x_.m ≥ gi := of_decide_eq_true h44
          refine W.seq fun K45 hK45 => ?_
          refine W.region ?_
          refine ops_run 1 (by kernel_rfl) ?_
          refine ops_done (by kernel_rfl) ?_
          refine hK45 _ _ ?_
          clear hK45
          refine W.ret (ret_seq ?_)
          have hs46 : St B w [] w38 [] := St.take (H := []) hs40
          refine ret_of (.bool false) (by kernel_rfl) ⟨_, ⟨congrArg Value.bool (decide_eq_false (by first | (intro q; exact absurd q.1 (by assumption)) | ((try simp only [mx_lt, le_mx, ge_iff_le, Int.not_le] at *); simp only [RightP]; omega))).symm, rfl⟩, hs46⟩
        ·
          have h44p : ¬ (x_.m ≥ gi) := of_decide_eq_false h44
          refine W.skip ?_
          refine hK35 _ _ ?_
          clear hK35
          refine W.seq fun K47 hK47 => ?_
          refine W.seq fun K48 hK48 => ?_
          refine W.region ?_
          refine ops_run 1 (by kernel_rfl) ?_
          refine ops_R (runs_load (ad := ⟨b7, 1, none⟩) (v := (.int .u64 x_.l)) (by kernel_rfl) (hs40.cellAt 2 rfl rfl)) ?_
          refine ops_run 2 (by kernel_rfl) ?_
          rcases Bool.eq_false_or_eq_true (decide (x_.l > 65536)) with h49 | h49
          ·
            have h49p : x_.l > 65536 := of_decide_eq_true h49
            refine ops_set 37 (v := .bool true) (eq_bool_of (by kernel_rfl) h49) ?_
            refine ops_set 36 (v := .bool true) (eq_bool_of (by kernel_rfl) h49) ?_
            refine ops_run 9 (by kernel_rfl) ?_
            refine ops_done (by kernel_rfl) ?_
            refine hK48 _ _ ?_
            clear hK48
            refine W.cond_true true (by kernel_rfl) rfl ?_
            refine W.seq fun K50 hK50 => ?_
            refine W.region ?_
            refine ops_run 1 (by kernel_rfl) ?_
            refine ops_done (by kernel_rfl) ?_
            refine hK50 _ _ ?_
            clear hK50
            refine W.ret (ret_seq ?_)
            have hs51 : St B w [] w38 [] := St.take (H := []) hs40
            refine ret_of (.bool false) (by kernel_rfl) ⟨_, ⟨congrArg Value.bool (decide_eq_false (by first | (intro q; exact absurd q.1 (by assumption)) | ((try simp only [mx_lt, le_mx, ge_iff_le, Int.not_le] at *); simp only [RightP]; omega))).symm, rfl⟩, hs51⟩
          ·
            have h49p : ¬ (x_.l > 65536) := of_decide_eq_false h49
            refine ops_set 37 (v := .bool false) (eq_bool_of (by kernel_rfl) h49) ?_
            refine ops_set 36 (v := .bool false) (eq_bool_of (by kernel_rfl) h49) ?_
            refine ops_run 1 (by kernel_rfl) ?_
            refine ops_R (runs_load (ad := ⟨b7, 2, none⟩) (v := (.int .u64 x_.o)) (by kernel_rfl) (hs40.cellAt 2 rfl rfl)) ?_
            refine ops_run 3 (by kernel_rfl) ?_
            rcases Bool.eq_false_or_eq_true (decide (x_.o > 16)) with h52 | h52
            ·
              have h52p : x_.o > 16 := of_decide_eq_true h52
              refine ops_set 42 (v := .bool true) (eq_bool_of (by kernel_rfl) h52) ?_
              refine ops_set 40 (v := .bool true) (eq_bool_of (by kernel_rfl) h52) ?_
              refine ops_set 41 (v := .bool true) (eq_bool_of (by kernel_rfl) h52) ?_
              refine ops_run 4 (by kernel_rfl) ?_
              refine ops_done (by kernel_rfl) ?_
              refine hK48 _ _ ?_
              clear hK48
              refine W.cond_true true (by kernel_rfl) rfl ?_
              refine W.seq fun K53 hK53 => ?_
              refine W.region ?_
              refine ops_run 1 (by kernel_rfl) ?_
              refine ops_done (by kernel_rfl) ?_
              refine hK53 _ _ ?_
              clear hK53
              refine W.ret (ret_seq ?_)
              have hs54 : St B w [] w38 [] := St.take (H := []) hs40
              refine ret_of (.bool false) (by kernel_rfl) ⟨_, ⟨congrArg Value.bool (decide_eq_false (by first | (intro q; exact absurd q.1 (by assumption)) | ((try simp only [mx_lt, le_mx, ge_iff_le, Int.not_le] at *); simp only [RightP]; omega))).symm, rfl⟩, hs54⟩
            ·
              have h52p : ¬ (x_.o > 16) := of_decide_eq_false h52
              refine ops_set 42 (v := .bool false) (eq_bool_of (by kernel_rfl) h52) ?_
              refine ops_set 40 (v := .bool false) (eq_bool_of (by kernel_rfl) h52) ?_
              refine ops_set 41 (v := .bool false) (eq_bool_of (by kernel_rfl) h52) ?_
              refine ops_run 1 (by kernel_rfl) ?_
              refine ops_R (runs_load (ad := ⟨b7, 3, none⟩) (v := (.int .u64 x_.s)) (by kernel_rfl) (hs40.cellAt 2 rfl rfl)) ?_
              refine ops_run 2 (by kernel_rfl) ?_
              refine ops_done (by kernel_rfl) ?_
              refine hK48 _ _ ?_
              clear hK48
              refine W.cond (decide (x_.s > 768)) (by kernel_rfl) (fun h55 => ?_) (fun h55 => ?_)
              ·
                have h55p : x_.s > 768 := of_decide_eq_true h55
                refine W.seq fun K56 hK56 => ?_
                refine W.region ?_
                refine ops_run 1 (by kernel_rfl) ?_
                refine ops_done (by kernel_rfl) ?_
                refine hK56 _ _ ?_
                clear hK56
                refine W.ret (ret_seq ?_)
                have hs57 : St B w [] w38 [] := St.take (H := []) hs40
                refine ret_of (.bool false) (by kernel_rfl) ⟨_, ⟨congrArg Value.bool (decide_eq_false (by first | (intro q; exact absurd q.1 (by assumption)) | ((try simp only [mx_lt, le_mx, ge_iff_le, Int.not_le] at *); simp only [RightP]; omega))).symm, rfl⟩, hs57⟩
              ·
                have h55p : ¬ (x_.s > 768) := of_decide_eq_false h55
                refine W.skip ?_
                refine hK47 _ _ ?_
                clear hK47
                refine W.seq fun K58 hK58 => ?_
                refine W.seq fun K59 hK59 => ?_
                refine W.region ?_
                refine ops_run 1 (by kernel_rfl) ?_
                refine ops_R (runs_load (ad := ⟨b7, 0, none⟩) (v := (.int .u64 x_.k)) (by kernel_rfl) (hs40.cellAt 2 rfl rfl)) ?_
                refine ops_done (by kernel_rfl) ?_
                refine hK59 _ _ ?_
                clear hK59
                refine W.block ?_
                refine W.seq fun K60 hK60 => ?_
                refine W.region ?_
                refine ops_run 2 (by kernel_rfl) ?_
                refine ops_done (by kernel_rfl) ?_
                refine hK60 _ _ ?_
                clear hK60
                refine W.cond (decide (x_.k = 1)) (by kernel_rfl) (fun h61 => ?_) (fun h61 => ?_)
                ·
                  have h61p : x_.k = 1 := of_decide_eq_true h61
                  refine W.seq fun K62 hK62 => ?_
                  refine W.region ?_
                  refine ops_run 1 (by kernel_rfl) ?_
                  refine ops_R (runs_load (ad := ⟨b7, 9, none⟩) (v := (.int .u64 x_.m)) (by kernel_rfl) (hs40.cellAt 2 rfl rfl)) ?_
                  refine ops_run 2 (by kernel_rfl) ?_
                  refine ops_done (by kernel_rfl) ?_
                  refine hK62 _ _ ?_
                  clear hK62
                  refine W.ret (ret_block (ret_seq ?_))
                  have hs63 : St B w [] w38 [] := St.take (H := []) hs40
                  refine ret_of (.bool (decide (x_.m = 0))) (by kernel_rfl) ⟨_, ⟨congrArg Value.bool (decide_eq_decide.2 (by (try simp only [mx_lt, le_mx, ge_iff_le, Int.not_le] at *); simp only [RightP, hm, true_and]; omega)), rfl⟩, hs63⟩
                ·
                  have h61p : ¬ (x_.k = 1) := of_decide_eq_false h61
                  refine W.seq fun K64 hK64 => ?_
                  refine W.region ?_
                  refine ops_run 2 (by kernel_rfl) ?_
                  refine ops_done (by kernel_rfl) ?_
                  refine hK64 _ _ ?_
                  clear hK64
                  refine W.cond (decide (x_.k = 2)) (by kernel_rfl) (fun h65 => ?_) (fun h65 => ?_)
                  ·
                    have h65p : x_.k = 2 := of_decide_eq_true h65
                    refine W.seq fun K66 hK66 => ?_
                    refine W.region ?_
                    refine ops_run 1 (by kernel_rfl) ?_
                    refine ops_R (runs_load (ad := ⟨b7, 3, none⟩) (v := (.int .u64 x_.s)) (by kernel_rfl) (hs40.cellAt 2 rfl rfl)) ?_
                    refine ops_run 2 (by kernel_rfl) ?_
                    refine ops_done (by kernel_rfl) ?_
                    refine hK66 _ _ ?_
                    clear hK66
                    refine W.ret (ret_block (ret_seq ?_))
                    have hs67 : St B w [] w38 [] := St.take (H := []) hs40
                    refine ret_of (.bool (decide (x_.s = 0))) (by kernel_rfl) ⟨_, ⟨congrArg Value.bool (decide_eq_decide.2 (by (try simp only [mx_lt, le_mx, ge_iff_le, Int.not_le] at *); simp only [RightP, hm, true_and]; omega)), rfl⟩, hs67⟩
                  ·
                    have h65p : ¬ (x_.k = 2) := of_decide_eq_false h65
                    refine W.skip ?_
                    refine normal_block ?_
                    refine hK58 _ _ ?_
                    clear hK58
                    refine W.seq fun K68 hK68 => ?_
                    refine W.region ?_
                    refine ops_run 1 (by kernel_rfl) ?_
                    refine ops_done (by kernel_rfl) ?_
                    refine hK68 _ _ ?_
                    clear hK68
                    refine W.ret ?_
                    have hs69 : St B w [] w38 [] := St.take (H := []) hs40
                    refine ret_of (.bool false) (by kernel_rfl) ⟨_, ⟨congrArg Value.bool (decide_eq_false (by first | (intro q; exact absurd q.1 (by assumption)) | ((try simp only [mx_lt, le_mx, ge_iff_le, Int.not_le] at *); simp only [RightP]; omega))).symm, rfl⟩, hs69⟩

end Go.Proofs.Ythimamnblklkbaa
