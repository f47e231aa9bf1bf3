/- Contracts of layers 6 and 7, by a program. -/
import Derived.Test.YthimamnblklkbaaF6h
namespace Go.Proofs.Ythimamnblklkbaa
open Go Go.RowKit
set_option linter.unusedSimpArgs false
set_option linter.unusedVariables false

set_option maxRecDepth 20000 in
theorem ip_nil {gw gi gb n_ : Int} {x_ : Nd} (B : Nat) (w : World) : Spec Try.prog 35 #[(.pointer none), (.agg #[(.int .i64 gw), (.int .i64 gi), (.int .i64 gb)]), (.int .i64 n_), (.agg #[(.int .u64 x_.k), (.int .u64 x_.l), (.int .u64 x_.o), (.int .u64 x_.s), (.int .u64 x_.a), (.int .u64 x_.b), (.int .u64 x_.c), (.int .u64 x_.d), (.int .u64 x_.e), (.int .u64 x_.m)])] B w [] (fun v H' => v = .int .i64 2 ∧ H' = []) := by
  refine spec_Q Try.func35 rfl fun hs => ?_
  refine W.seq fun K1 hK1 => ?_
  refine W.region ?_
  refine ops_new (fun b => .pointer (some ⟨b, 0, none⟩)) (.cells [(.int .i64 gw), (.int .i64 gi), (.int .i64 gb)].toArray 56 (0, 0)) hs (by kernel_rfl) (fun b4 w2 hs3 => ?_)
  refine ops_new (fun b => .pointer (some ⟨b, 0, none⟩)) (.cells [(.int .u64 x_.k), (.int .u64 x_.l), (.int .u64 x_.o), (.int .u64 x_.s), (.int .u64 x_.a), (.int .u64 x_.b), (.int .u64 x_.c), (.int .u64 x_.d), (.int .u64 x_.e), (.int .u64 x_.m)].toArray 54 (0, 0)) hs3 (by kernel_rfl) (fun b7 w5 hs6 => ?_)
  refine ops_run 1 (by kernel_rfl) ?_
  refine ops_done (by kernel_rfl) ?_
  refine hK1 _ _ ?_
  clear hK1
  refine W.seq fun K8 hK8 => ?_
  refine W.region ?_
  refine ops_run 1 (by kernel_rfl) ?_
  refine ops_R (runs_loadAgg (ad := ⟨b4, 0, none⟩) (cs := [(.int .i64 gw), (.int .i64 gi), (.int .i64 gb)]) (by kernel_rfl) (cells_sub (hs6.heapAt 1 rfl) rfl)) ?_
  refine ops_run 1 (by kernel_rfl) ?_
  refine ops_call (pre := []) hs6 (by kernel_rfl) (ifind_nil (gw := gw) (gi := gi) (gb := gb) (n_ := n_) B _) ?_
  rintro _ _ w9 ⟨rfl, rfl⟩ hs10
  have hs11 : St B w [] w9 [blk b7 (.cells [(.int .u64 x_.k), (.int .u64 x_.l), (.int .u64 x_.o), (.int .u64 x_.s), (.int .u64 x_.a), (.int .u64 x_.b), (.int .u64 x_.c), (.int .u64 x_.d), (.int .u64 x_.e), (.int .u64 x_.m)].toArray 54 (0, 0)), blk b4 (.cells [(.int .i64 gw), (.int .i64 gi), (.int .i64 gb)].toArray 56 (0, 0))] := hs10
  refine ops_run 5 (by kernel_rfl) ?_
  refine ops_done (by kernel_rfl) ?_
  refine hK8 _ _ ?_
  clear hK8
  refine W.seq fun K12 hK12 => ?_
  refine W.block ?_
  refine W.seq fun K13 hK13 => ?_
  refine W.region ?_
  refine ops_run 3 (by kernel_rfl) ?_
  refine ops_done (by kernel_rfl) ?_
  refine hK13 _ _ ?_
  clear hK13
  refine W.cond_true true (by kernel_rfl) rfl ?_
  refine W.seq fun K14 hK14 => ?_
  refine W.region ?_
  refine ops_run 2 (by kernel_rfl) ?_
  refine ops_done (by kernel_rfl) ?_
  refine hK14 _ _ ?_
  clear hK14
  refine W.ret (ret_block (ret_seq ?_))
  have hs15 : St B w [] w9 [] := St.take (H := []) hs11
  refine ret_of (.int .i64 2) (by kernel_rfl) ⟨_, ⟨rfl, rfl⟩, hs15⟩

set_option maxRecDepth 20000 in
theorem iw_nil {gw gi gb n_ : Int} (B : Nat) (w : World) : Spec Try.prog 37 #[(.pointer none), (.agg #[(.int .i64 gw), (.int .i64 gi), (.int .i64 gb)]), (.int .i64 n_)] B w [] (fun v H' => v = .int .i64 2 ∧ H' = []) := by
  refine spec_Q Try.func37 rfl fun hs => ?_
  refine W.seq fun K1 hK1 => ?_
  refine W.region ?_
  refine ops_new (fun b => .pointer (some ⟨b, 0, none⟩)) (.cells [(.int .i64 gw), (.int .i64 gi), (.int .i64 gb)].toArray 56 (0, 0)) hs (by kernel_rfl) (fun b4 w2 hs3 => ?_)
  refine ops_run 1 (by kernel_rfl) ?_
  refine ops_done (by kernel_rfl) ?_
  refine hK1 _ _ ?_
  clear hK1
  refine W.seq fun K5 hK5 => ?_
  refine W.region ?_
  refine ops_run 1 (by kernel_rfl) ?_
  refine ops_R (runs_loadAgg (ad := ⟨b4, 0, none⟩) (cs := [(.int .i64 gw), (.int .i64 gi), (.int .i64 gb)]) (by kernel_rfl) (cells_sub (hs3.heapAt 0 rfl) rfl)) ?_
  refine ops_run 1 (by kernel_rfl) ?_
  refine ops_call (pre := []) hs3 (by kernel_rfl) (ifind_nil (gw := gw) (gi := gi) (gb := gb) (n_ := n_) B _) ?_
  rintro _ _ w6 ⟨rfl, rfl⟩ hs7
  have hs8 : St B w [] w6 [blk b4 (.cells [(.int .i64 gw), (.int .i64 gi), (.int .i64 gb)].toArray 56 (0, 0))] := hs7
  refine ops_run 5 (by kernel_rfl) ?_
  refine ops_done (by kernel_rfl) ?_
  refine hK5 _ _ ?_
  clear hK5
  refine W.seq fun K9 hK9 => ?_
  refine W.seq fun K10 hK10 => ?_
  refine W.region ?_
  refine ops_run 2 (by kernel_rfl) ?_
  refine ops_done (by kernel_rfl) ?_
  refine hK10 _ _ ?_
  clear hK10
  refine W.cond_true true (by kernel_rfl) rfl ?_
  refine W.seq fun K11 hK11 => ?_
  refine W.region ?_
  refine ops_run 2 (by kernel_rfl) ?_
  refine ops_done (by kernel_rfl) ?_
  refine hK11 _ _ ?_
  clear hK11
  refine W.ret (ret_seq ?_)
  have hs12 : St B w [] w6 [] := St.take (H := []) hs8
  refine ret_of (.int .i64 2) (by kernel_rfl) ⟨_, ⟨rfl, rfl⟩, hs12⟩

set_option maxRecDepth 20000 in
theorem ig_nil {gw gi gb n_ : Int} (B : Nat) (w : World) : Spec Try.prog 36 #[(.pointer none), (.agg #[(.int .i64 gw), (.int .i64 gi), (.int .i64 gb)]), (.int .i64 n_)] B w [] (fun v H' => v = (.tuple #[(.agg #[(.int .u64 0), (.int .u64 0), (.int .u64 0), (.int .u64 0), (.int .u64 0), (.int .u64 0), (.int .u64 0), (.int .u64 0), (.int .u64 0), (.int .u64 0)]), (.int .i64 2)]) ∧ H' = []) := by
  refine spec_Q Try.func36 rfl fun hs => ?_
  refine W.seq fun K1 hK1 => ?_
  refine W.region ?_
  refine ops_new (fun b => .pointer (some ⟨b, 0, none⟩)) (.cells [(.int .i64 gw), (.int .i64 gi), (.int .i64 gb)].toArray 56 (0, 0)) hs (by kernel_rfl) (fun b4 w2 hs3 => ?_)
  refine ops_new (fun b => .pointer (some ⟨b, 0, none⟩)) (.cells [(.int .u64 0), (.int .u64 0), (.int .u64 0), (.int .u64 0), (.int .u64 0), (.int .u64 0), (.int .u64 0), (.int .u64 0), (.int .u64 0), (.int .u64 0)].toArray 54 (0, 0)) hs3 (by kernel_rfl) (fun b7 w5 hs6 => ?_)
  refine ops_run 1 (by kernel_rfl) ?_
  refine ops_done (by kernel_rfl) ?_
  refine hK1 _ _ ?_
  clear hK1
  refine W.seq fun K8 hK8 => ?_
  refine W.region ?_
  refine ops_run 1 (by kernel_rfl) ?_
  refine ops_R (runs_loadAgg (ad := ⟨b4, 0, none⟩) (cs := [(.int .i64 gw), (.int .i64 gi), (.int .i64 gb)]) (by kernel_rfl) (cells_sub (hs6.heapAt 1 rfl) rfl)) ?_
  refine ops_run 1 (by kernel_rfl) ?_
  refine ops_call (pre := []) hs6 (by kernel_rfl) (ifind_nil (gw := gw) (gi := gi) (gb := gb) (n_ := n_) B _) ?_
  rintro _ _ w9 ⟨rfl, rfl⟩ hs10
  have hs11 : St B w [] w9 [blk b7 (.cells [(.int .u64 0), (.int .u64 0), (.int .u64 0), (.int .u64 0), (.int .u64 0), (.int .u64 0), (.int .u64 0), (.int .u64 0), (.int .u64 0), (.int .u64 0)].toArray 54 (0, 0)), blk b4 (.cells [(.int .i64 gw), (.int .i64 gi), (.int .i64 gb)].toArray 56 (0, 0))] := hs10
  refine ops_run 5 (by kernel_rfl) ?_
  refine ops_done (by kernel_rfl) ?_
  refine hK8 _ _ ?_
  clear hK8
  refine W.seq fun K12 hK12 => ?_
  refine W.seq fun K13 hK13 => ?_
  refine W.region ?_
  refine ops_run 2 (by kernel_rfl) ?_
  refine ops_done (by kernel_rfl) ?_
  refine hK13 _ _ ?_
  clear hK13
  refine W.cond_true true (by kernel_rfl) rfl ?_
  refine W.seq fun K14 hK14 => ?_
  refine W.region ?_
  refine ops_run 2 (by kernel_rfl) ?_
  refine ops_store (off := 0) (cs := [(.int .u64 0), (.int .u64 0), (.int .u64 0), (.int .u64 0), (.int .u64 0), (.int .u64 0), (.int .u64 0), (.int .u64 0), (.int .u64 0), (.int .u64 0)]) (vs := [(.int .u64 0), (.int .u64 0), (.int .u64 0), (.int .u64 0), (.int .u64 0), (.int .u64 0), (.int .u64 0), (.int .u64 0), (.int .u64 0), (.int .u64 0)]) hs11 (by kernel_rfl) (by simp) rfl (fun w15 hs16 => ?_)
  have hs17 : St B w [] w15 [blk b7 (.cells [(.int .u64 0), (.int .u64 0), (.int .u64 0), (.int .u64 0), (.int .u64 0), (.int .u64 0), (.int .u64 0), (.int .u64 0), (.int .u64 0), (.int .u64 0)].toArray 54 (0, 0)), blk b4 (.cells [(.int .i64 gw), (.int .i64 gi), (.int .i64 gb)].toArray 56 (0, 0))] := hs16
  refine ops_run 1 (by kernel_rfl) ?_
  refine ops_done (by kernel_rfl) ?_
  refine hK14 _ _ ?_
  clear hK14
  refine W.ret (ret_seq ?_)
  have hs18 : St B w [] w15 [] := St.take (H := []) hs17
  refine ret_of (.tuple #[(.agg #[(.int .u64 0), (.int .u64 0), (.int .u64 0), (.int .u64 0), (.int .u64 0), (.int .u64 0), (.int .u64 0), (.int .u64 0), (.int .u64 0), (.int .u64 0)]), (.int .i64 2)]) (results_cell2 (ad := ⟨b7, 0, none⟩) (cs := [(.int .u64 0), (.int .u64 0), (.int .u64 0), (.int .u64 0), (.int .u64 0), (.int .u64 0), (.int .u64 0), (.int .u64 0), (.int .u64 0), (.int .u64 0)]) rfl (by kernel_rfl) (by kernel_rfl) (by kernel_rfl) (cells_sub (hs17.heapAt 0 rfl) rfl)) ⟨_, ⟨rfl, rfl⟩, hs18⟩

set_option maxRecDepth 20000 in
set_option maxHeartbeats 2000000 in
theorem rp_spec {b : Nat} {img : List Int} {l : List (Int × Int)} {gw gi gb n_ : Int} {x_ : Nd} (B : Nat) (w : World) : Spec Try.prog 41 #[(.pointer (some ⟨b, 0, none⟩)), (.agg #[(.int .i64 gw), (.int .i64 gi), (.int .i64 gb)]), (.int .i64 n_), (.agg #[(.int .u64 x_.k), (.int .u64 x_.l), (.int .u64 x_.o), (.int .u64 x_.s), (.int .u64 x_.a), (.int .u64 x_.b), (.int .u64 x_.c), (.int .u64 x_.d), (.int .u64 x_.e), (.int .u64 x_.m)])] B w [refA (ptr b) img l] (fun v H' => v = .int .i64 (iputM img l gw gi gb n_ x_).1 ∧ H' = [refA (ptr b) img (iputM img l gw gi gb n_ x_).2]) := by
  refine spec_W Try.func41 rfl fun l0 hs => ?_
  have hrg := ifind_range (img.length : Int) gw gi gb n_
  refine W.seq fun K1 hK1 => ?_
  refine W.region ?_
  refine ops_new (fun b => .pointer (some ⟨b, 0, none⟩)) (.cells [(.int .i64 gw), (.int .i64 gi), (.int .i64 gb)].toArray 61 (0, 0)) hs (by kernel_rfl) (fun b4 w2 hs3 => ?_)
  refine ops_new (fun b => .pointer (some ⟨b, 0, none⟩)) (.cells [(.int .u64 x_.k), (.int .u64 x_.l), (.int .u64 x_.o), (.int .u64 x_.s), (.int .u64 x_.a), (.int .u64 x_.b), (.int .u64 x_.c), (.int .u64 x_.d), (.int .u64 x_.e), (.int .u64 x_.m)].toArray 76 (0, 0)) hs3 (by kernel_rfl) (fun b7 w5 hs6 => ?_)
  refine ops_run 1 (by kernel_rfl) ?_
  refine ops_done (by kernel_rfl) ?_
  refine hK1 _ _ ?_
  clear hK1
  refine W.seq fun K8 hK8 => ?_
  refine W.seq fun K9 hK9 => ?_
  refine W.region ?_
  refine ops_R (runs_loadAgg (ad := ⟨b4, 0, none⟩) (cs := [(.int .i64 gw), (.int .i64 gi), (.int .i64 gb)]) (by kernel_rfl) (cells_sub (hs6.heapAt 1 rfl) rfl)) ?_
  refine ops_R (runs_loadAgg (ad := ⟨b7, 0, none⟩) (cs := [(.int .u64 x_.k), (.int .u64 x_.l), (.int .u64 x_.o), (.int .u64 x_.s), (.int .u64 x_.a), (.int .u64 x_.b), (.int .u64 x_.c), (.int .u64 x_.d), (.int .u64 x_.e), (.int .u64 x_.m)]) (by kernel_rfl) (cells_sub (hs6.heapAt 0 rfl) rfl)) ?_
  refine ops_call (pre := []) hs6 (by kernel_rfl) (rright_spec (gw := gw) (gi := gi) (gb := gb) (x_ := ⟨x_.k, x_.l, x_.o, x_.s, x_.a, x_.b, x_.c, x_.d, x_.e, x_.m⟩) B _) ?_
  rintro _ _ w10 ⟨rfl, rfl⟩ hs11
  have hs12 : St B w l0 w10 [blk b7 (.cells [(.int .u64 x_.k), (.int .u64 x_.l), (.int .u64 x_.o), (.int .u64 x_.s), (.int .u64 x_.a), (.int .u64 x_.b), (.int .u64 x_.c), (.int .u64 x_.d), (.int .u64 x_.e), (.int .u64 x_.m)].toArray 76 (0, 0)), blk b4 (.cells [(.int .i64 gw), (.int .i64 gi), (.int .i64 gb)].toArray 61 (0, 0)), refA (ptr b) img l] := hs11
  refine ops_run 1 (by kernel_rfl) ?_
  refine ops_done (by kernel_rfl) ?_
  refine hK9 _ _ ?_
  clear hK9
  refine W.cond (!(decide (RightP gw gi gb ⟨x_.k, x_.l, x_.o, x_.s, x_.a, x_.b, x_.c, x_.d, x_.e, x_.m⟩))) (by kernel_rfl) (fun h13 => ?_) (fun h13 => ?_)
  ·
    have h13p : ¬ (RightP gw gi gb ⟨x_.k, x_.l, x_.o, x_.s, x_.a, x_.b, x_.c, x_.d, x_.e, x_.m⟩) := of_decide_eq_false (bnot_true h13)
    refine W.seq fun K14 hK14 => ?_
    refine W.region ?_
    refine ops_run 1 (by kernel_rfl) ?_
    refine ops_done (by kernel_rfl) ?_
    refine hK14 _ _ ?_
    clear hK14
    refine W.ret (ret_seq ?_)
    have hs15 : St B w l0 w10 [refA (ptr b) img l, blk b7 (.cells [(.int .u64 x_.k), (.int .u64 x_.l), (.int .u64 x_.o), (.int .u64 x_.s), (.int .u64 x_.a), (.int .u64 x_.b), (.int .u64 x_.c), (.int .u64 x_.d), (.int .u64 x_.e), (.int .u64 x_.m)].toArray 76 (0, 0)), blk b4 (.cells [(.int .i64 gw), (.int .i64 gi), (.int .i64 gb)].toArray 61 (0, 0))] := hs12.front 2 (by simp)
    have hs16 : St B w l0 w10 [refA (ptr b) img l] := St.take (H := [refA (ptr b) img l]) hs15
    have e1_ : (iputM img l gw gi gb n_ x_).1 = 1 := by first | (exfalso; omega) | (simp only [iputM]; first | (rw [if_neg (by assumption)]; try rfl; done) | (rw [if_pos (by assumption), if_neg (by assumption)]; try rfl; done) | (rw [if_pos (by assumption), if_pos (by assumption), hrg.2.2 (by assumption)]; try rfl; done))
    have e2_ : (iputM img l gw gi gb n_ x_).2 = l := by first | (exfalso; omega) | (simp only [iputM]; first | (rw [if_neg (by assumption)]; try rfl; done) | (rw [if_pos (by assumption), if_neg (by assumption)]; try rfl; done) | (rw [if_pos (by assumption), if_pos (by assumption), hrg.2.2 (by assumption)]; try rfl; done))
    refine ret_of (.int .i64 1) (by kernel_rfl) ⟨_, ⟨by rw [e1_], by rw [e2_]⟩, hs16⟩
  ·
    have h13p : RightP gw gi gb ⟨x_.k, x_.l, x_.o, x_.s, x_.a, x_.b, x_.c, x_.d, x_.e, x_.m⟩ := of_decide_eq_true (bnot_false h13)
    refine W.skip ?_
    refine hK8 _ _ ?_
    clear hK8
    refine W.seq fun K17 hK17 => ?_
    refine W.region ?_
    refine ops_run 1 (by kernel_rfl) ?_
    refine ops_R (runs_loadAgg (ad := ⟨b4, 0, none⟩) (cs := [(.int .i64 gw), (.int .i64 gi), (.int .i64 gb)]) (by kernel_rfl) (cells_sub (hs12.heapAt 1 rfl) rfl)) ?_
    refine ops_run 1 (by kernel_rfl) ?_
    refine ops_call (pre := []) hs12 (by kernel_rfl) (there_spec (gw := gw) (gi := gi) (gb := gb) (n_ := n_) (hv := (hs12.entAt 2 rfl refA_at)) B _) ?_
    rintro _ _ w18 ⟨rfl, rfl⟩ hs19
    have hs20 : St B w l0 w18 [blk b7 (.cells [(.int .u64 x_.k), (.int .u64 x_.l), (.int .u64 x_.o), (.int .u64 x_.s), (.int .u64 x_.a), (.int .u64 x_.b), (.int .u64 x_.c), (.int .u64 x_.d), (.int .u64 x_.e), (.int .u64 x_.m)].toArray 76 (0, 0)), blk b4 (.cells [(.int .i64 gw), (.int .i64 gi), (.int .i64 gb)].toArray 61 (0, 0)), refA (ptr b) img l] := hs19
    refine ops_run 1 (by kernel_rfl) ?_
    refine ops_done (by kernel_rfl) ?_
    refine hK17 _ _ ?_
    clear hK17
    refine W.seq fun K21 hK21 => ?_
    refine W.seq fun K22 hK22 => ?_
    refine W.region ?_
    refine ops_run 2 (by kernel_rfl) ?_
    refine ops_done (by kernel_rfl) ?_
    refine hK22 _ _ ?_
    clear hK22
    refine W.cond (!decide ((ifind (img.length : Int) gw gi gb n_).2 = 0)) (by kernel_rfl) (fun h23 => ?_) (fun h23 => ?_)
    ·
      have h23p : ¬ ((ifind (img.length : Int) gw gi gb n_).2 = 0) := of_decide_eq_false (bnot_true h23)
      refine W.seq fun K24 hK24 => ?_
      refine W.region ?_
      refine ops_run 2 (by kernel_rfl) ?_
      refine ops_done (by kernel_rfl) ?_
      refine hK24 _ _ ?_
      clear hK24
      refine W.ret (ret_seq ?_)
      have hs25 : St B w l0 w18 [refA (ptr b) img l, blk b7 (.cells [(.int .u64 x_.k), (.int .u64 x_.l), (.int .u64 x_.o), (.int .u64 x_.s), (.int .u64 x_.a), (.int .u64 x_.b), (.int .u64 x_.c), (.int .u64 x_.d), (.int .u64 x_.e), (.int .u64 x_.m)].toArray 76 (0, 0)), blk b4 (.cells [(.int .i64 gw), (.int .i64 gi), (.int .i64 gb)].toArray 61 (0, 0))] := hs20.front 2 (by simp)
      have hs26 : St B w l0 w18 [refA (ptr b) img l] := St.take (H := [refA (ptr b) img l]) hs25
      have e1_ : (iputM img l gw gi gb n_ x_).1 = (ifind (img.length : Int) gw gi gb n_).2 := by first | (exfalso; omega) | (simp only [iputM]; first | (rw [if_neg (by assumption)]; try rfl; done) | (rw [if_pos (by assumption), if_neg (by assumption)]; try rfl; done) | (rw [if_pos (by assumption), if_pos (by assumption), hrg.2.2 (by assumption)]; try rfl; done))
      have e2_ : (iputM img l gw gi gb n_ x_).2 = l := by first | (exfalso; omega) | (simp only [iputM]; first | (rw [if_neg (by assumption)]; try rfl; done) | (rw [if_pos (by assumption), if_neg (by assumption)]; try rfl; done) | (rw [if_pos (by assumption), if_pos (by assumption), hrg.2.2 (by assumption)]; try rfl; done))
      refine ret_of (.int .i64 ((ifind (img.length : Int) gw gi gb n_).2)) (by kernel_rfl) ⟨_, ⟨by rw [e1_], by rw [e2_]⟩, hs26⟩
    ·
      have h23p : (ifind (img.length : Int) gw gi gb n_).2 = 0 := of_decide_eq_true (bnot_false h23)
      refine W.skip ?_
      refine hK21 _ _ ?_
      clear hK21
      refine W.seq fun K27 hK27 => ?_
      have hs28 := hs20.drew
      have hs29 : St B w l0 w18.drew [blk b4 (.cells [(.int .i64 gw), (.int .i64 gi), (.int .i64 gb)].toArray 61 (0, 0)), blk b7 (.cells [(.int .u64 x_.k), (.int .u64 x_.l), (.int .u64 x_.o), (.int .u64 x_.s), (.int .u64 x_.a), (.int .u64 x_.b), (.int .u64 x_.c), (.int .u64 x_.d), (.int .u64 x_.e), (.int .u64 x_.m)].toArray 76 (0, 0)), refA (ptr b) img l] := hs28.front 1 (by simp)
      have hs30 : St B w l0 w18.drew [blk b7 (.cells [(.int .u64 x_.k), (.int .u64 x_.l), (.int .u64 x_.o), (.int .u64 x_.s), (.int .u64 x_.a), (.int .u64 x_.b), (.int .u64 x_.c), (.int .u64 x_.d), (.int .u64 x_.e), (.int .u64 x_.m)].toArray 76 (0, 0)), blk b4 (.cells [(.int .i64 gw), (.int .i64 gi), (.int .i64 gb)].toArray 61 (0, 0)), refA (ptr b) img l] := hs29.front 1 (by simp)
      have hs31 : St B w l0 w18.drew [blk b7 (.cells [(.int .u64 x_.k), (.int .u64 x_.l), (.int .u64 x_.o), (.int .u64 x_.s), (.int .u64 x_.a), (.int .u64 x_.b), (.int .u64 x_.c), (.int .u64 x_.d), (.int .u64 x_.e), (.int .u64 x_.m)].toArray 76 (0, 0)), blk b4 (.cells [(.int .i64 gw), (.int .i64 gi), (.int .i64 gb)].toArray 61 (0, 0))] := St.take (H := [blk b7 (.cells [(.int .u64 x_.k), (.int .u64 x_.l), (.int .u64 x_.o), (.int .u64 x_.s), (.int .u64 x_.a), (.int .u64 x_.b), (.int .u64 x_.c), (.int .u64 x_.d), (.int .u64 x_.e), (.int .u64 x_.m)].toArray 76 (0, 0)), blk b4 (.cells [(.int .i64 gw), (.int .i64 gi), (.int .i64 gb)].toArray 61 (0, 0))]) hs30
      refine W.regionD [(0, 0), (0, 0), (0, 0), (6, 6), (0, 0), (16, 16), (0, 0), (64, 64), (0, 0), (256, 256), (0, 0), (1024, 1024), (0, 0), (4096, 4096), (8192, 8192), (0, 0), (32768, 32768), (65536, 65536), (0, 0), (262144, 262144), (524288, 524288), (0, 0), (2097152, 2097152), (4194304, 4194304), (0, 0), (16777216, 16777216), (0, 0), (67108864, 67108864), (177359520, 177359520), (268435465, 268435465), (1073741823, 536870912)] (fun w_ => St B w l0 w_ [blk b7 (.cells [(.int .u64 x_.k), (.int .u64 x_.l), (.int .u64 x_.o), (.int .u64 x_.s), (.int .u64 x_.a), (.int .u64 x_.b), (.int .u64 x_.c), (.int .u64 x_.d), (.int .u64 x_.e), (.int .u64 x_.m)].toArray 76 (0, 0)), blk b4 (.cells [(.int .i64 gw), (.int .i64 gi), (.int .i64 gb)].toArray 61 (0, 0))]) (by kernel_rfl) hs31 ?_
      refine any_val (v := (.pointer (some ⟨b, 0, none⟩))) (v' := (.pointer (some ⟨b, 0, none⟩))) 0 (by kernel_rfl) (fun _ => by kernel_rfl) rfl hs31 ?_
      refine any_R 1 (by kernel_rfl) (fun _ hS_ => runs_loadAgg (ad := ⟨b4, 0, none⟩) (cs := [(.int .i64 gw), (.int .i64 gi), (.int .i64 gb)]) (by kernel_rfl) (cells_sub (hS_.heapAt 1 rfl) rfl)) hs31 ?_
      refine any_val (v := (.int .i64 n_)) (v' := (.int .i64 n_)) 2 (by kernel_rfl) (fun _ => by kernel_rfl) rfl hs31 ?_
      refine any_val (v := (.pointer (some ⟨b7, 0, none⟩))) (v' := (.pointer (some ⟨b7, 0, none⟩))) 4 (by kernel_rfl) (fun _ => by kernel_rfl) rfl hs31 ?_
      refine any_R 5 (by kernel_rfl) (fun _ hS_ => runs_load (ad := ⟨b7, 0, none⟩) (v := (.int .u64 x_.k)) (by kernel_rfl) (hS_.cellAt 0 rfl rfl)) hs31 ?_
      refine any_val (v := (.pointer (some ⟨b7, 1, none⟩))) (v' := (.pointer (some ⟨b7, 1, none⟩))) 6 (by kernel_rfl) (fun _ => by kernel_rfl) rfl hs31 ?_
      refine any_R 7 (by kernel_rfl) (fun _ hS_ => runs_load (ad := ⟨b7, 1, none⟩) (v := (.int .u64 x_.l)) (by kernel_rfl) (hS_.cellAt 0 rfl rfl)) hs31 ?_
      refine any_val (v := (.pointer (some ⟨b7, 2, none⟩))) (v' := (.pointer (some ⟨b7, 2, none⟩))) 8 (by kernel_rfl) (fun _ => by kernel_rfl) rfl hs31 ?_
      refine any_R 9 (by kernel_rfl) (fun _ hS_ => runs_load (ad := ⟨b7, 2, none⟩) (v := (.int .u64 x_.o)) (by kernel_rfl) (hS_.cellAt 0 rfl rfl)) hs31 ?_
      refine any_val (v := (.pointer (some ⟨b7, 3, none⟩))) (v' := (.pointer (some ⟨b7, 3, none⟩))) 10 (by kernel_rfl) (fun _ => by kernel_rfl) rfl hs31 ?_
      refine any_R 11 (by kernel_rfl) (fun _ hS_ => runs_load (ad := ⟨b7, 3, none⟩) (v := (.int .u64 x_.s)) (by kernel_rfl) (hS_.cellAt 0 rfl rfl)) hs31 ?_
      refine any_val (v := (.pointer (some ⟨b7, 4, none⟩))) (v' := (.pointer (some ⟨b7, 4, none⟩))) 12 (by kernel_rfl) (fun _ => by kernel_rfl) rfl hs31 ?_
      refine any_val (v := (.pointer (some ⟨b7, 4, none⟩))) (v' := (.pointer (some ⟨b7, 4, none⟩))) 13 (by kernel_rfl) (fun _ => by kernel_rfl) rfl hs31 ?_
      refine any_R 14 (by kernel_rfl) (fun _ hS_ => runs_load (ad := ⟨b7, 4, none⟩) (v := (.int .u64 x_.a)) (by kernel_rfl) (hS_.cellAt 0 rfl rfl)) hs31 ?_
      refine any_val (v := (.pointer (some ⟨b7, 4, none⟩))) (v' := (.pointer (some ⟨b7, 4, none⟩))) 15 (by kernel_rfl) (fun _ => by kernel_rfl) rfl hs31 ?_
      refine any_val (v := (.pointer (some ⟨b7, 5, none⟩))) (v' := (.pointer (some ⟨b7, 5, none⟩))) 16 (by kernel_rfl) (fun _ => by kernel_rfl) rfl hs31 ?_
      refine any_R 17 (by kernel_rfl) (fun _ hS_ => runs_load (ad := ⟨b7, 5, none⟩) (v := (.int .u64 x_.b)) (by kernel_rfl) (hS_.cellAt 0 rfl rfl)) hs31 ?_
      refine any_val (v := (.pointer (some ⟨b7, 4, none⟩))) (v' := (.pointer (some ⟨b7, 4, none⟩))) 18 (by kernel_rfl) (fun _ => by kernel_rfl) rfl hs31 ?_
      refine any_val (v := (.pointer (some ⟨b7, 6, none⟩))) (v' := (.pointer (some ⟨b7, 6, none⟩))) 19 (by kernel_rfl) (fun _ => by kernel_rfl) rfl hs31 ?_
      refine any_R 20 (by kernel_rfl) (fun _ hS_ => runs_load (ad := ⟨b7, 6, none⟩) (v := (.int .u64 x_.c)) (by kernel_rfl) (hS_.cellAt 0 rfl rfl)) hs31 ?_
      refine any_val (v := (.pointer (some ⟨b7, 4, none⟩))) (v' := (.pointer (some ⟨b7, 4, none⟩))) 21 (by kernel_rfl) (fun _ => by kernel_rfl) rfl hs31 ?_
      refine any_val (v := (.pointer (some ⟨b7, 7, none⟩))) (v' := (.pointer (some ⟨b7, 7, none⟩))) 22 (by kernel_rfl) (fun _ => by kernel_rfl) rfl hs31 ?_
      refine any_R 23 (by kernel_rfl) (fun _ hS_ => runs_load (ad := ⟨b7, 7, none⟩) (v := (.int .u64 x_.d)) (by kernel_rfl) (hS_.cellAt 0 rfl rfl)) hs31 ?_
      refine any_val (v := (.pointer (some ⟨b7, 8, none⟩))) (v' := (.pointer (some ⟨b7, 8, none⟩))) 24 (by kernel_rfl) (fun _ => by kernel_rfl) rfl hs31 ?_
      refine any_R 25 (by kernel_rfl) (fun _ hS_ => runs_load (ad := ⟨b7, 8, none⟩) (v := (.int .u64 x_.e)) (by kernel_rfl) (hS_.cellAt 0 rfl rfl)) hs31 ?_
      refine any_val (v := (.pointer (some ⟨b7, 9, none⟩))) (v' := (.pointer (some ⟨b7, 9, none⟩))) 26 (by kernel_rfl) (fun _ => by kernel_rfl) rfl hs31 ?_
      refine any_R 27 (by kernel_rfl) (fun _ hS_ => runs_load (ad := ⟨b7, 9, none⟩) (v := (.int .u64 x_.m)) (by kernel_rfl) (hS_.cellAt 0 rfl rfl)) hs31 ?_
      refine any_step2 3 28 (by kernel_rfl) (by kernel_rfl) (by kernel_rfl) ?_ ?_
      ·
        refine ops_call (pre := []) hs28 (by kernel_rfl) (rinodeat_spec (gw := gw) (gi := gi) (gb := gb) (n_ := n_) B _) ?_
        rintro _ _ w32 ⟨rfl, rfl⟩ hs33
        have hs34 : St B w l0 w32 [blk b7 (.cells [(.int .u64 x_.k), (.int .u64 x_.l), (.int .u64 x_.o), (.int .u64 x_.s), (.int .u64 x_.a), (.int .u64 x_.b), (.int .u64 x_.c), (.int .u64 x_.d), (.int .u64 x_.e), (.int .u64 x_.m)].toArray 76 (0, 0)), blk b4 (.cells [(.int .i64 gw), (.int .i64 gi), (.int .i64 gb)].toArray 61 (0, 0)), refA (ptr b) img l] := hs33
        have hs35 : St B w l0 w32 [blk b4 (.cells [(.int .i64 gw), (.int .i64 gi), (.int .i64 gb)].toArray 61 (0, 0)), blk b7 (.cells [(.int .u64 x_.k), (.int .u64 x_.l), (.int .u64 x_.o), (.int .u64 x_.s), (.int .u64 x_.a), (.int .u64 x_.b), (.int .u64 x_.c), (.int .u64 x_.d), (.int .u64 x_.e), (.int .u64 x_.m)].toArray 76 (0, 0)), refA (ptr b) img l] := hs34.front 1 (by simp)
        have hs36 : St B w l0 w32 [blk b7 (.cells [(.int .u64 x_.k), (.int .u64 x_.l), (.int .u64 x_.o), (.int .u64 x_.s), (.int .u64 x_.a), (.int .u64 x_.b), (.int .u64 x_.c), (.int .u64 x_.d), (.int .u64 x_.e), (.int .u64 x_.m)].toArray 76 (0, 0)), blk b4 (.cells [(.int .i64 gw), (.int .i64 gi), (.int .i64 gb)].toArray 61 (0, 0)), refA (ptr b) img l] := hs35.front 1 (by simp)
        have hs37 : St B w l0 w32 [blk b7 (.cells [(.int .u64 x_.k), (.int .u64 x_.l), (.int .u64 x_.o), (.int .u64 x_.s), (.int .u64 x_.a), (.int .u64 x_.b), (.int .u64 x_.c), (.int .u64 x_.d), (.int .u64 x_.e), (.int .u64 x_.m)].toArray 76 (0, 0)), blk b4 (.cells [(.int .i64 gw), (.int .i64 gi), (.int .i64 gb)].toArray 61 (0, 0))] := St.take (H := [blk b7 (.cells [(.int .u64 x_.k), (.int .u64 x_.l), (.int .u64 x_.o), (.int .u64 x_.s), (.int .u64 x_.a), (.int .u64 x_.b), (.int .u64 x_.c), (.int .u64 x_.d), (.int .u64 x_.e), (.int .u64 x_.m)].toArray 76 (0, 0)), blk b4 (.cells [(.int .i64 gw), (.int .i64 gi), (.int .i64 gb)].toArray 61 (0, 0))]) hs36
        refine ops_done (by kernel_rfl) ⟨hs37, ?_⟩
        refine any_step 28 (by kernel_rfl) (by kernel_rfl) ?_
        refine ops_new (fun b => .slice (some ⟨b, 0, none⟩) 10 10) (.cells [(.int .u64 x_.k), (.int .u64 x_.l), (.int .u64 x_.o), (.int .u64 x_.s), (.int .u64 x_.a), (.int .u64 x_.b), (.int .u64 x_.c), (.int .u64 x_.d), (.int .u64 x_.e), (.int .u64 x_.m)].toArray 33 (0, 0)) hs34 (by kernel_rfl) (fun b40 w38 hs39 => ?_)
        have hs41 : St B w l0 w38 [blk b4 (.cells [(.int .i64 gw), (.int .i64 gi), (.int .i64 gb)].toArray 61 (0, 0)), blk b40 (.cells [(.int .u64 x_.k), (.int .u64 x_.l), (.int .u64 x_.o), (.int .u64 x_.s), (.int .u64 x_.a), (.int .u64 x_.b), (.int .u64 x_.c), (.int .u64 x_.d), (.int .u64 x_.e), (.int .u64 x_.m)].toArray 33 (0, 0)), blk b7 (.cells [(.int .u64 x_.k), (.int .u64 x_.l), (.int .u64 x_.o), (.int .u64 x_.s), (.int .u64 x_.a), (.int .u64 x_.b), (.int .u64 x_.c), (.int .u64 x_.d), (.int .u64 x_.e), (.int .u64 x_.m)].toArray 76 (0, 0)), refA (ptr b) img l] := hs39.front 2 (by simp)
        have hs42 : St B w l0 w38 [blk b7 (.cells [(.int .u64 x_.k), (.int .u64 x_.l), (.int .u64 x_.o), (.int .u64 x_.s), (.int .u64 x_.a), (.int .u64 x_.b), (.int .u64 x_.c), (.int .u64 x_.d), (.int .u64 x_.e), (.int .u64 x_.m)].toArray 76 (0, 0)), blk b4 (.cells [(.int .i64 gw), (.int .i64 gi), (.int .i64 gb)].toArray 61 (0, 0)), blk b40 (.cells [(.int .u64 x_.k), (.int .u64 x_.l), (.int .u64 x_.o), (.int .u64 x_.s), (.int .u64 x_.a), (.int .u64 x_.b), (.int .u64 x_.c), (.int .u64 x_.d), (.int .u64 x_.e), (.int .u64 x_.m)].toArray 33 (0, 0)), refA (ptr b) img l] := hs41.front 2 (by simp)
        have hs43 : St B w l0 w38 [blk b7 (.cells [(.int .u64 x_.k), (.int .u64 x_.l), (.int .u64 x_.o), (.int .u64 x_.s), (.int .u64 x_.a), (.int .u64 x_.b), (.int .u64 x_.c), (.int .u64 x_.d), (.int .u64 x_.e), (.int .u64 x_.m)].toArray 76 (0, 0)), blk b4 (.cells [(.int .i64 gw), (.int .i64 gi), (.int .i64 gb)].toArray 61 (0, 0))] := St.take (H := [blk b7 (.cells [(.int .u64 x_.k), (.int .u64 x_.l), (.int .u64 x_.o), (.int .u64 x_.s), (.int .u64 x_.a), (.int .u64 x_.b), (.int .u64 x_.c), (.int .u64 x_.d), (.int .u64 x_.e), (.int .u64 x_.m)].toArray 76 (0, 0)), blk b4 (.cells [(.int .i64 gw), (.int .i64 gi), (.int .i64 gb)].toArray 61 (0, 0))]) hs42
        refine ops_done (by kernel_rfl) ⟨hs43, ?_⟩
        refine any_step 29 (by kernel_rfl) (by kernel_rfl) ?_
        have hs44 : St B w l0 w38 [kU64.row (some ⟨b40, 0, none⟩) 10 ([x_.k, x_.l, x_.o, x_.s, x_.a, x_.b, x_.c, x_.d, x_.e, x_.m]), blk b7 (.cells [(.int .u64 x_.k), (.int .u64 x_.l), (.int .u64 x_.o), (.int .u64 x_.s), (.int .u64 x_.a), (.int .u64 x_.b), (.int .u64 x_.c), (.int .u64 x_.d), (.int .u64 x_.e), (.int .u64 x_.m)].toArray 76 (0, 0)), blk b4 (.cells [(.int .i64 gw), (.int .i64 gi), (.int .i64 gb)].toArray 61 (0, 0)), refA (ptr b) img l] := St.kblk kU64 [x_.k, x_.l, x_.o, x_.s, x_.a, x_.b, x_.c, x_.d, x_.e, x_.m] hs39 rfl rfl (by simp only [List.length_cons, List.length_nil]; decide)
        have hs45 : St B w l0 w38 [refA (ptr b) img l, kU64.row (some ⟨b40, 0, none⟩) 10 ([x_.k, x_.l, x_.o, x_.s, x_.a, x_.b, x_.c, x_.d, x_.e, x_.m]), blk b7 (.cells [(.int .u64 x_.k), (.int .u64 x_.l), (.int .u64 x_.o), (.int .u64 x_.s), (.int .u64 x_.a), (.int .u64 x_.b), (.int .u64 x_.c), (.int .u64 x_.d), (.int .u64 x_.e), (.int .u64 x_.m)].toArray 76 (0, 0)), blk b4 (.cells [(.int .i64 gw), (.int .i64 gi), (.int .i64 gb)].toArray 61 (0, 0))] := hs44.front 3 (by simp)
        refine ops_call (pre := [refA (ptr b) img l, kU64.row (some ⟨b40, 0, none⟩) 10 ([x_.k, x_.l, x_.o, x_.s, x_.a, x_.b, x_.c, x_.d, x_.e, x_.m])]) hs45 (by kernel_rfl) (rall_spec (b := b) (img := img) (l := l) (at_ := (placeOf 8 gw gi gb n_)) (la := (some ⟨b40, 0, none⟩)) (lc := 10) (ws := [x_.k, x_.l, x_.o, x_.s, x_.a, x_.b, x_.c, x_.d, x_.e, x_.m]) (n := 10) (hn := rfl) (hsz := (by simp only [List.length_cons, List.length_nil]; decide)) (hat := (by omega)) B _) ?_
        rintro _ _ w46 ⟨rfl, rfl⟩ hs47
        have hs48 : St B w l0 w46 [refA (ptr b) img ((vwrites img (placeOf 8 gw gi gb n_) l 0 ([x_.k, x_.l, x_.o, x_.s, x_.a, x_.b, x_.c, x_.d, x_.e, x_.m])).2), blk b7 (.cells [(.int .u64 x_.k), (.int .u64 x_.l), (.int .u64 x_.o), (.int .u64 x_.s), (.int .u64 x_.a), (.int .u64 x_.b), (.int .u64 x_.c), (.int .u64 x_.d), (.int .u64 x_.e), (.int .u64 x_.m)].toArray 76 (0, 0)), blk b4 (.cells [(.int .i64 gw), (.int .i64 gi), (.int .i64 gb)].toArray 61 (0, 0))] := hs47
        have hs49 : St B w l0 w46 [blk b4 (.cells [(.int .i64 gw), (.int .i64 gi), (.int .i64 gb)].toArray 61 (0, 0)), refA (ptr b) img ((vwrites img (placeOf 8 gw gi gb n_) l 0 ([x_.k, x_.l, x_.o, x_.s, x_.a, x_.b, x_.c, x_.d, x_.e, x_.m])).2), blk b7 (.cells [(.int .u64 x_.k), (.int .u64 x_.l), (.int .u64 x_.o), (.int .u64 x_.s), (.int .u64 x_.a), (.int .u64 x_.b), (.int .u64 x_.c), (.int .u64 x_.d), (.int .u64 x_.e), (.int .u64 x_.m)].toArray 76 (0, 0))] := hs48.front 2 (by simp)
        have hs50 : St B w l0 w46 [blk b7 (.cells [(.int .u64 x_.k), (.int .u64 x_.l), (.int .u64 x_.o), (.int .u64 x_.s), (.int .u64 x_.a), (.int .u64 x_.b), (.int .u64 x_.c), (.int .u64 x_.d), (.int .u64 x_.e), (.int .u64 x_.m)].toArray 76 (0, 0)), blk b4 (.cells [(.int .i64 gw), (.int .i64 gi), (.int .i64 gb)].toArray 61 (0, 0)), refA (ptr b) img ((vwrites img (placeOf 8 gw gi gb n_) l 0 ([x_.k, x_.l, x_.o, x_.s, x_.a, x_.b, x_.c, x_.d, x_.e, x_.m])).2)] := hs49.front 2 (by simp)
        have hs51 : St B w l0 w46 [blk b7 (.cells [(.int .u64 x_.k), (.int .u64 x_.l), (.int .u64 x_.o), (.int .u64 x_.s), (.int .u64 x_.a), (.int .u64 x_.b), (.int .u64 x_.c), (.int .u64 x_.d), (.int .u64 x_.e), (.int .u64 x_.m)].toArray 76 (0, 0)), blk b4 (.cells [(.int .i64 gw), (.int .i64 gi), (.int .i64 gb)].toArray 61 (0, 0))] := St.take (H := [blk b7 (.cells [(.int .u64 x_.k), (.int .u64 x_.l), (.int .u64 x_.o), (.int .u64 x_.s), (.int .u64 x_.a), (.int .u64 x_.b), (.int .u64 x_.c), (.int .u64 x_.d), (.int .u64 x_.e), (.int .u64 x_.m)].toArray 76 (0, 0)), blk b4 (.cells [(.int .i64 gw), (.int .i64 gi), (.int .i64 gb)].toArray 61 (0, 0))]) hs50
        refine ops_done (by kernel_rfl) ⟨hs51, ?_⟩
        refine any_val (v := (.int .i64 ((vwrites img (placeOf 8 gw gi gb n_) l 0 ([x_.k, x_.l, x_.o, x_.s, x_.a, x_.b, x_.c, x_.d, x_.e, x_.m])).1))) (v' := (.int .i64 ((vwrites img (placeOf 8 gw gi gb n_) l 0 ([x_.k, x_.l, x_.o, x_.s, x_.a, x_.b, x_.c, x_.d, x_.e, x_.m])).1))) 30 (by kernel_rfl) (fun _ => by kernel_rfl) rfl hs51 ?_
        refine any_done (by kernel_rfl) ?_
        refine hK27 _ _ ?_
        clear hK27
        refine W.ret ?_
        have hs52 : St B w l0 w46 [refA (ptr b) img ((vwrites img (placeOf 8 gw gi gb n_) l 0 ([x_.k, x_.l, x_.o, x_.s, x_.a, x_.b, x_.c, x_.d, x_.e, x_.m])).2)] := St.take (H := [refA (ptr b) img ((vwrites img (placeOf 8 gw gi gb n_) l 0 ([x_.k, x_.l, x_.o, x_.s, x_.a, x_.b, x_.c, x_.d, x_.e, x_.m])).2)]) hs48
        have e1_ : (iputM img l gw gi gb n_ x_).1 = (vwrites img (placeOf 8 gw gi gb n_) l 0 ([x_.k, x_.l, x_.o, x_.s, x_.a, x_.b, x_.c, x_.d, x_.e, x_.m])).1 := by first | (exfalso; omega) | (simp only [iputM]; first | (rw [if_neg (by assumption)]; try rfl; done) | (rw [if_pos (by assumption), if_neg (by assumption)]; try rfl; done) | (rw [if_pos (by assumption), if_pos (by assumption), hrg.2.2 (by assumption)]; try rfl; done))
        have e2_ : (iputM img l gw gi gb n_ x_).2 = (vwrites img (placeOf 8 gw gi gb n_) l 0 ([x_.k, x_.l, x_.o, x_.s, x_.a, x_.b, x_.c, x_.d, x_.e, x_.m])).2 := by first | (exfalso; omega) | (simp only [iputM]; first | (rw [if_neg (by assumption)]; try rfl; done) | (rw [if_pos (by assumption), if_neg (by assumption)]; try rfl; done) | (rw [if_pos (by assumption), if_pos (by assumption), hrg.2.2 (by assumption)]; try rfl; done))
        refine ret_of (.int .i64 ((vwrites img (placeOf 8 gw gi gb n_) l 0 ([x_.k, x_.l, x_.o, x_.s, x_.a, x_.b, x_.c, x_.d, x_.e, x_.m])).1)) (by kernel_rfl) ⟨_, ⟨by rw [e1_], by rw [e2_]⟩, hs52⟩
      ·
        refine ops_new (fun b => .slice (some ⟨b, 0, none⟩) 10 10) (.cells [(.int .u64 x_.k), (.int .u64 x_.l), (.int .u64 x_.o), (.int .u64 x_.s), (.int .u64 x_.a), (.int .u64 x_.b), (.int .u64 x_.c), (.int .u64 x_.d), (.int .u64 x_.e), (.int .u64 x_.m)].toArray 33 (0, 0)) hs28 (by kernel_rfl) (fun b55 w53 hs54 => ?_)
        have hs56 : St B w l0 w53 [blk b4 (.cells [(.int .i64 gw), (.int .i64 gi), (.int .i64 gb)].toArray 61 (0, 0)), blk b55 (.cells [(.int .u64 x_.k), (.int .u64 x_.l), (.int .u64 x_.o), (.int .u64 x_.s), (.int .u64 x_.a), (.int .u64 x_.b), (.int .u64 x_.c), (.int .u64 x_.d), (.int .u64 x_.e), (.int .u64 x_.m)].toArray 33 (0, 0)), blk b7 (.cells [(.int .u64 x_.k), (.int .u64 x_.l), (.int .u64 x_.o), (.int .u64 x_.s), (.int .u64 x_.a), (.int .u64 x_.b), (.int .u64 x_.c), (.int .u64 x_.d), (.int .u64 x_.e), (.int .u64 x_.m)].toArray 76 (0, 0)), refA (ptr b) img l] := hs54.front 2 (by simp)
        have hs57 : St B w l0 w53 [blk b7 (.cells [(.int .u64 x_.k), (.int .u64 x_.l), (.int .u64 x_.o), (.int .u64 x_.s), (.int .u64 x_.a), (.int .u64 x_.b), (.int .u64 x_.c), (.int .u64 x_.d), (.int .u64 x_.e), (.int .u64 x_.m)].toArray 76 (0, 0)), blk b4 (.cells [(.int .i64 gw), (.int .i64 gi), (.int .i64 gb)].toArray 61 (0, 0)), blk b55 (.cells [(.int .u64 x_.k), (.int .u64 x_.l), (.int .u64 x_.o), (.int .u64 x_.s), (.int .u64 x_.a), (.int .u64 x_.b), (.int .u64 x_.c), (.int .u64 x_.d), (.int .u64 x_.e), (.int .u64 x_.m)].toArray 33 (0, 0)), refA (ptr b) img l] := hs56.front 2 (by simp)
        have hs58 : St B w l0 w53 [blk b7 (.cells [(.int .u64 x_.k), (.int .u64 x_.l), (.int .u64 x_.o), (.int .u64 x_.s), (.int .u64 x_.a), (.int .u64 x_.b), (.int .u64 x_.c), (.int .u64 x_.d), (.int .u64 x_.e), (.int .u64 x_.m)].toArray 76 (0, 0)), blk b4 (.cells [(.int .i64 gw), (.int .i64 gi), (.int .i64 gb)].toArray 61 (0, 0))] := St.take (H := [blk b7 (.cells [(.int .u64 x_.k), (.int .u64 x_.l), (.int .u64 x_.o), (.int .u64 x_.s), (.int .u64 x_.a), (.int .u64 x_.b), (.int .u64 x_.c), (.int .u64 x_.d), (.int .u64 x_.e), (.int .u64 x_.m)].toArray 76 (0, 0)), blk b4 (.cells [(.int .i64 gw), (.int .i64 gi), (.int .i64 gb)].toArray 61 (0, 0))]) hs57
        refine ops_done (by kernel_rfl) ⟨hs58, ?_⟩
        refine any_step 3 (by kernel_rfl) (by kernel_rfl) ?_
        refine ops_call (pre := []) hs54 (by kernel_rfl) (rinodeat_spec (gw := gw) (gi := gi) (gb := gb) (n_ := n_) B _) ?_
        rintro _ _ w59 ⟨rfl, rfl⟩ hs60
        have hs61 : St B w l0 w59 [blk b55 (.cells [(.int .u64 x_.k), (.int .u64 x_.l), (.int .u64 x_.o), (.int .u64 x_.s), (.int .u64 x_.a), (.int .u64 x_.b), (.int .u64 x_.c), (.int .u64 x_.d), (.int .u64 x_.e), (.int .u64 x_.m)].toArray 33 (0, 0)), blk b7 (.cells [(.int .u64 x_.k), (.int .u64 x_.l), (.int .u64 x_.o), (.int .u64 x_.s), (.int .u64 x_.a), (.int .u64 x_.b), (.int .u64 x_.c), (.int .u64 x_.d), (.int .u64 x_.e), (.int .u64 x_.m)].toArray 76 (0, 0)), blk b4 (.cells [(.int .i64 gw), (.int .i64 gi), (.int .i64 gb)].toArray 61 (0, 0)), refA (ptr b) img l] := hs60
        have hs62 : St B w l0 w59 [blk b4 (.cells [(.int .i64 gw), (.int .i64 gi), (.int .i64 gb)].toArray 61 (0, 0)), blk b55 (.cells [(.int .u64 x_.k), (.int .u64 x_.l), (.int .u64 x_.o), (.int .u64 x_.s), (.int .u64 x_.a), (.int .u64 x_.b), (.int .u64 x_.c), (.int .u64 x_.d), (.int .u64 x_.e), (.int .u64 x_.m)].toArray 33 (0, 0)), blk b7 (.cells [(.int .u64 x_.k), (.int .u64 x_.l), (.int .u64 x_.o), (.int .u64 x_.s), (.int .u64 x_.a), (.int .u64 x_.b), (.int .u64 x_.c), (.int .u64 x_.d), (.int .u64 x_.e), (.int .u64 x_.m)].toArray 76 (0, 0)), refA (ptr b) img l] := hs61.front 2 (by simp)
        have hs63 : St B w l0 w59 [blk b7 (.cells [(.int .u64 x_.k), (.int .u64 x_.l), (.int .u64 x_.o), (.int .u64 x_.s), (.int .u64 x_.a), (.int .u64 x_.b), (.int .u64 x_.c), (.int .u64 x_.d), (.int .u64 x_.e), (.int .u64 x_.m)].toArray 76 (0, 0)), blk b4 (.cells [(.int .i64 gw), (.int .i64 gi), (.int .i64 gb)].toArray 61 (0, 0)), blk b55 (.cells [(.int .u64 x_.k), (.int .u64 x_.l), (.int .u64 x_.o), (.int .u64 x_.s), (.int .u64 x_.a), (.int .u64 x_.b), (.int .u64 x_.c), (.int .u64 x_.d), (.int .u64 x_.e), (.int .u64 x_.m)].toArray 33 (0, 0)), refA (ptr b) img l] := hs62.front 2 (by simp)
        have hs64 : St B w l0 w59 [blk b7 (.cells [(.int .u64 x_.k), (.int .u64 x_.l), (.int .u64 x_.o), (.int .u64 x_.s), (.int .u64 x_.a), (.int .u64 x_.b), (.int .u64 x_.c), (.int .u64 x_.d), (.int .u64 x_.e), (.int .u64 x_.m)].toArray 76 (0, 0)), blk b4 (.cells [(.int .i64 gw), (.int .i64 gi), (.int .i64 gb)].toArray 61 (0, 0))] := St.take (H := [blk b7 (.cells [(.int .u64 x_.k), (.int .u64 x_.l), (.int .u64 x_.o), (.int .u64 x_.s), (.int .u64 x_.a), (.int .u64 x_.b), (.int .u64 x_.c), (.int .u64 x_.d), (.int .u64 x_.e), (.int .u64 x_.m)].toArray 76 (0, 0)), blk b4 (.cells [(.int .i64 gw), (.int .i64 gi), (.int .i64 gb)].toArray 61 (0, 0))]) hs63
        refine ops_done (by kernel_rfl) ⟨hs64, ?_⟩
        refine any_step 29 (by kernel_rfl) (by kernel_rfl) ?_
        have hs65 : St B w l0 w59 [kU64.row (some ⟨b55, 0, none⟩) 10 ([x_.k, x_.l, x_.o, x_.s, x_.a, x_.b, x_.c, x_.d, x_.e, x_.m]), blk b7 (.cells [(.int .u64 x_.k), (.int .u64 x_.l), (.int .u64 x_.o), (.int .u64 x_.s), (.int .u64 x_.a), (.int .u64 x_.b), (.int .u64 x_.c), (.int .u64 x_.d), (.int .u64 x_.e), (.int .u64 x_.m)].toArray 76 (0, 0)), blk b4 (.cells [(.int .i64 gw), (.int .i64 gi), (.int .i64 gb)].toArray 61 (0, 0)), refA (ptr b) img l] := St.kblk kU64 [x_.k, x_.l, x_.o, x_.s, x_.a, x_.b, x_.c, x_.d, x_.e, x_.m] hs61 rfl rfl (by simp only [List.length_cons, List.length_nil]; decide)
        have hs66 : St B w l0 w59 [refA (ptr b) img l, kU64.row (some ⟨b55, 0, none⟩) 10 ([x_.k, x_.l, x_.o, x_.s, x_.a, x_.b, x_.c, x_.d, x_.e, x_.m]), blk b7 (.cells [(.int .u64 x_.k), (.int .u64 x_.l), (.int .u64 x_.o), (.int .u64 x_.s), (.int .u64 x_.a), (.int .u64 x_.b), (.int .u64 x_.c), (.int .u64 x_.d), (.int .u64 x_.e), (.int .u64 x_.m)].toArray 76 (0, 0)), blk b4 (.cells [(.int .i64 gw), (.int .i64 gi), (.int .i64 gb)].toArray 61 (0, 0))] := hs65.front 3 (by simp)
        refine ops_call (pre := [refA (ptr b) img l, kU64.row (some ⟨b55, 0, none⟩) 10 ([x_.k, x_.l, x_.o, x_.s, x_.a, x_.b, x_.c, x_.d, x_.e, x_.m])]) hs66 (by kernel_rfl) (rall_spec (b := b) (img := img) (l := l) (at_ := (placeOf 8 gw gi gb n_)) (la := (some ⟨b55, 0, none⟩)) (lc := 10) (ws := [x_.k, x_.l, x_.o, x_.s, x_.a, x_.b, x_.c, x_.d, x_.e, x_.m]) (n := 10) (hn := rfl) (hsz := (by simp only [List.length_cons, List.length_nil]; decide)) (hat := (by omega)) B _) ?_
        rintro _ _ w67 ⟨rfl, rfl⟩ hs68
        have hs69 : St B w l0 w67 [refA (ptr b) img ((vwrites img (placeOf 8 gw gi gb n_) l 0 ([x_.k, x_.l, x_.o, x_.s, x_.a, x_.b, x_.c, x_.d, x_.e, x_.m])).2), blk b7 (.cells [(.int .u64 x_.k), (.int .u64 x_.l), (.int .u64 x_.o), (.int .u64 x_.s), (.int .u64 x_.a), (.int .u64 x_.b), (.int .u64 x_.c), (.int .u64 x_.d), (.int .u64 x_.e), (.int .u64 x_.m)].toArray 76 (0, 0)), blk b4 (.cells [(.int .i64 gw), (.int .i64 gi), (.int .i64 gb)].toArray 61 (0, 0))] := hs68
        have hs70 : St B w l0 w67 [blk b4 (.cells [(.int .i64 gw), (.int .i64 gi), (.int .i64 gb)].toArray 61 (0, 0)), refA (ptr b) img ((vwrites img (placeOf 8 gw gi gb n_) l 0 ([x_.k, x_.l, x_.o, x_.s, x_.a, x_.b, x_.c, x_.d, x_.e, x_.m])).2), blk b7 (.cells [(.int .u64 x_.k), (.int .u64 x_.l), (.int .u64 x_.o), (.int .u64 x_.s), (.int .u64 x_.a), (.int .u64 x_.b), (.int .u64 x_.c), (.int .u64 x_.d), (.int .u64 x_.e), (.int .u64 x_.m)].toArray 76 (0, 0))] := hs69.front 2 (by simp)
        have hs71 : St B w l0 w67 [blk b7 (.cells [(.int .u64 x_.k), (.int .u64 x_.l), (.int .u64 x_.o), (.int .u64 x_.s), (.int .u64 x_.a), (.int .u64 x_.b), (.int .u64 x_.c), (.int .u64 x_.d), (.int .u64 x_.e), (.int .u64 x_.m)].toArray 76 (0, 0)), blk b4 (.cells [(.int .i64 gw), (.int .i64 gi), (.int .i64 gb)].toArray 61 (0, 0)), refA (ptr b) img ((vwrites img (placeOf 8 gw gi gb n_) l 0 ([x_.k, x_.l, x_.o, x_.s, x_.a, x_.b, x_.c, x_.d, x_.e, x_.m])).2)] := hs70.front 2 (by simp)
        have hs72 : St B w l0 w67 [blk b7 (.cells [(.int .u64 x_.k), (.int .u64 x_.l), (.int .u64 x_.o), (.int .u64 x_.s), (.int .u64 x_.a), (.int .u64 x_.b), (.int .u64 x_.c), (.int .u64 x_.d), (.int .u64 x_.e), (.int .u64 x_.m)].toArray 76 (0, 0)), blk b4 (.cells [(.int .i64 gw), (.int .i64 gi), (.int .i64 gb)].toArray 61 (0, 0))] := St.take (H := [blk b7 (.cells [(.int .u64 x_.k), (.int .u64 x_.l), (.int .u64 x_.o), (.int .u64 x_.s), (.int .u64 x_.a), (.int .u64 x_.b), (.int .u64 x_.c), (.int .u64 x_.d), (.int .u64 x_.e), (.int .u64 x_.m)].toArray 76 (0, 0)), blk b4 (.cells [(.int .i64 gw), (.int .i64 gi), (.int .i64 gb)].toArray 61 (0, 0))]) hs71
        refine ops_done (by kernel_rfl) ⟨hs72, ?_⟩
        refine any_val (v := (.int .i64 ((vwrites img (placeOf 8 gw gi gb n_) l 0 ([x_.k, x_.l, x_.o, x_.s, x_.a, x_.b, x_.c, x_.d, x_.e, x_.m])).1))) (v' := (.int .i64 ((vwrites img (placeOf 8 gw gi gb n_) l 0 ([x_.k, x_.l, x_.o, x_.s, x_.a, x_.b, x_.c, x_.d, x_.e, x_.m])).1))) 30 (by kernel_rfl) (fun _ => by kernel_rfl) rfl hs72 ?_
        refine any_done (by kernel_rfl) ?_
        refine hK27 _ _ ?_
        clear hK27
        refine W.ret ?_
        have hs73 : St B w l0 w67 [refA (ptr b) img ((vwrites img (placeOf 8 gw gi gb n_) l 0 ([x_.k, x_.l, x_.o, x_.s, x_.a, x_.b, x_.c, x_.d, x_.e, x_.m])).2)] := St.take (H := [refA (ptr b) img ((vwrites img (placeOf 8 gw gi gb n_) l 0 ([x_.k, x_.l, x_.o, x_.s, x_.a, x_.b, x_.c, x_.d, x_.e, x_.m])).2)]) hs69
        have e1_ : (iputM img l gw gi gb n_ x_).1 = (vwrites img (placeOf 8 gw gi gb n_) l 0 ([x_.k, x_.l, x_.o, x_.s, x_.a, x_.b, x_.c, x_.d, x_.e, x_.m])).1 := by first | (exfalso; omega) | (simp only [iputM]; first | (rw [if_neg (by assumption)]; try rfl; done) | (rw [if_pos (by assumption), if_neg (by assumption)]; try rfl; done) | (rw [if_pos (by assumption), if_pos (by assumption), hrg.2.2 (by assumption)]; try rfl; done))
        have e2_ : (iputM img l gw gi gb n_ x_).2 = (vwrites img (placeOf 8 gw gi gb n_) l 0 ([x_.k, x_.l, x_.o, x_.s, x_.a, x_.b, x_.c, x_.d, x_.e, x_.m])).2 := by first | (exfalso; omega) | (simp only [iputM]; first | (rw [if_neg (by assumption)]; try rfl; done) | (rw [if_pos (by assumption), if_neg (by assumption)]; try rfl; done) | (rw [if_pos (by assumption), if_pos (by assumption), hrg.2.2 (by assumption)]; try rfl; done))
        refine ret_of (.int .i64 ((vwrites img (placeOf 8 gw gi gb n_) l 0 ([x_.k, x_.l, x_.o, x_.s, x_.a, x_.b, x_.c, x_.d, x_.e, x_.m])).1)) (by kernel_rfl) ⟨_, ⟨by rw [e1_], by rw [e2_]⟩, hs73⟩

set_option maxRecDepth 20000 in
set_option maxHeartbeats 2000000 in
theorem rw_spec {b : Nat} {img : List Int} {l : List (Int × Int)} {gw gi gb n_ : Int} (B : Nat) (w : World) : Spec Try.prog 42 #[(.pointer (some ⟨b, 0, none⟩)), (.agg #[(.int .i64 gw), (.int .i64 gi), (.int .i64 gb)]), (.int .i64 n_)] B w [refA (ptr b) img l] (fun v H' => v = .int .i64 (iwipeM img l gw gi gb n_).1 ∧ H' = [refA (ptr b) img (iwipeM img l gw gi gb n_).2]) := by
  refine spec_W Try.func42 rfl fun l0 hs => ?_
  have hrg := ifind_range (img.length : Int) gw gi gb n_
  refine W.seq fun K1 hK1 => ?_
  refine W.region ?_
  refine ops_new (fun b => .pointer (some ⟨b, 0, none⟩)) (.cells [(.int .i64 gw), (.int .i64 gi), (.int .i64 gb)].toArray 61 (0, 0)) hs (by kernel_rfl) (fun b4 w2 hs3 => ?_)
  refine ops_run 1 (by kernel_rfl) ?_
  refine ops_done (by kernel_rfl) ?_
  refine hK1 _ _ ?_
  clear hK1
  refine W.seq fun K5 hK5 => ?_
  refine W.region ?_
  refine ops_run 1 (by kernel_rfl) ?_
  refine ops_R (runs_loadAgg (ad := ⟨b4, 0, none⟩) (cs := [(.int .i64 gw), (.int .i64 gi), (.int .i64 gb)]) (by kernel_rfl) (cells_sub (hs3.heapAt 0 rfl) rfl)) ?_
  refine ops_run 1 (by kernel_rfl) ?_
  refine ops_call (pre := []) hs3 (by kernel_rfl) (there_spec (gw := gw) (gi := gi) (gb := gb) (n_ := n_) (hv := (hs3.entAt 1 rfl refA_at)) B _) ?_
  rintro _ _ w6 ⟨rfl, rfl⟩ hs7
  have hs8 : St B w l0 w6 [blk b4 (.cells [(.int .i64 gw), (.int .i64 gi), (.int .i64 gb)].toArray 61 (0, 0)), refA (ptr b) img l] := hs7
  refine ops_run 1 (by kernel_rfl) ?_
  refine ops_done (by kernel_rfl) ?_
  refine hK5 _ _ ?_
  clear hK5
  refine W.seq fun K9 hK9 => ?_
  refine W.seq fun K10 hK10 => ?_
  refine W.region ?_
  refine ops_run 2 (by kernel_rfl) ?_
  refine ops_done (by kernel_rfl) ?_
  refine hK10 _ _ ?_
  clear hK10
  refine W.cond (!decide ((ifind (img.length : Int) gw gi gb n_).2 = 0)) (by kernel_rfl) (fun h11 => ?_) (fun h11 => ?_)
  ·
    have h11p : ¬ ((ifind (img.length : Int) gw gi gb n_).2 = 0) := of_decide_eq_false (bnot_true h11)
    refine W.seq fun K12 hK12 => ?_
    refine W.region ?_
    refine ops_run 2 (by kernel_rfl) ?_
    refine ops_done (by kernel_rfl) ?_
    refine hK12 _ _ ?_
    clear hK12
    refine W.ret (ret_seq ?_)
    have hs13 : St B w l0 w6 [refA (ptr b) img l, blk b4 (.cells [(.int .i64 gw), (.int .i64 gi), (.int .i64 gb)].toArray 61 (0, 0))] := hs8.front 1 (by simp)
    have hs14 : St B w l0 w6 [refA (ptr b) img l] := St.take (H := [refA (ptr b) img l]) hs13
    have e1_ : (iwipeM img l gw gi gb n_).1 = (ifind (img.length : Int) gw gi gb n_).2 := by first | (exfalso; omega) | (simp only [iwipeM]; first | (rw [if_neg (by assumption)]; try rfl; done) | (rw [if_pos (by assumption), hrg.2.2 (by assumption)]; try rfl; done))
    have e2_ : (iwipeM img l gw gi gb n_).2 = l := by first | (exfalso; omega) | (simp only [iwipeM]; first | (rw [if_neg (by assumption)]; try rfl; done) | (rw [if_pos (by assumption), hrg.2.2 (by assumption)]; try rfl; done))
    refine ret_of (.int .i64 ((ifind (img.length : Int) gw gi gb n_).2)) (by kernel_rfl) ⟨_, ⟨by rw [e1_], by rw [e2_]⟩, hs14⟩
  ·
    have h11p : (ifind (img.length : Int) gw gi gb n_).2 = 0 := of_decide_eq_true (bnot_false h11)
    refine W.skip ?_
    refine hK9 _ _ ?_
    clear hK9
    refine W.seq fun K15 hK15 => ?_
    have hs16 := hs8.drew
    have hs17 : St B w l0 w6.drew [blk b4 (.cells [(.int .i64 gw), (.int .i64 gi), (.int .i64 gb)].toArray 61 (0, 0))] := St.take (H := [blk b4 (.cells [(.int .i64 gw), (.int .i64 gi), (.int .i64 gb)].toArray 61 (0, 0))]) hs16
    refine W.regionD [(0, 0), (0, 0), (0, 0), (6, 6), (0, 0), (25, 25), (63, 32)] (fun w_ => St B w l0 w_ [blk b4 (.cells [(.int .i64 gw), (.int .i64 gi), (.int .i64 gb)].toArray 61 (0, 0))]) (by kernel_rfl) hs17 ?_
    refine any_val (v := (.pointer (some ⟨b, 0, none⟩))) (v' := (.pointer (some ⟨b, 0, none⟩))) 0 (by kernel_rfl) (fun _ => by kernel_rfl) rfl hs17 ?_
    refine any_R 1 (by kernel_rfl) (fun _ hS_ => runs_loadAgg (ad := ⟨b4, 0, none⟩) (cs := [(.int .i64 gw), (.int .i64 gi), (.int .i64 gb)]) (by kernel_rfl) (cells_sub (hS_.heapAt 0 rfl) rfl)) hs17 ?_
    refine any_val (v := (.int .i64 n_)) (v' := (.int .i64 n_)) 2 (by kernel_rfl) (fun _ => by kernel_rfl) rfl hs17 ?_
    refine any_step2 3 4 (by kernel_rfl) (by kernel_rfl) (by kernel_rfl) ?_ ?_
    ·
      refine ops_call (pre := []) hs16 (by kernel_rfl) (rinodeat_spec (gw := gw) (gi := gi) (gb := gb) (n_ := n_) B _) ?_
      rintro _ _ w18 ⟨rfl, rfl⟩ hs19
      have hs20 : St B w l0 w18 [blk b4 (.cells [(.int .i64 gw), (.int .i64 gi), (.int .i64 gb)].toArray 61 (0, 0)), refA (ptr b) img l] := hs19
      have hs21 : St B w l0 w18 [blk b4 (.cells [(.int .i64 gw), (.int .i64 gi), (.int .i64 gb)].toArray 61 (0, 0))] := St.take (H := [blk b4 (.cells [(.int .i64 gw), (.int .i64 gi), (.int .i64 gb)].toArray 61 (0, 0))]) hs20
      refine ops_done (by kernel_rfl) ⟨hs21, ?_⟩
      refine any_step 4 (by kernel_rfl) (by kernel_rfl) ?_
      refine ops_new (fun b => .slice (some ⟨b, 0, none⟩) 10 10) (.cells (kU64.cells [0, 0, 0, 0, 0, 0, 0, 0, 0, 0]).toArray 33 (0, 0)) hs20 (by kernel_rfl) (fun b24 w22 hs23 => ?_)
      have hs25 : St B w l0 w22 [kU64.row (some ⟨b24, 0, none⟩) 10 ([0, 0, 0, 0, 0, 0, 0, 0, 0, 0]), blk b4 (.cells [(.int .i64 gw), (.int .i64 gi), (.int .i64 gb)].toArray 61 (0, 0)), refA (ptr b) img l] := St.kblk kU64 [0, 0, 0, 0, 0, 0, 0, 0, 0, 0] hs23 rfl rfl (by decide)
      have hs26 : St B w l0 w22 [blk b4 (.cells [(.int .i64 gw), (.int .i64 gi), (.int .i64 gb)].toArray 61 (0, 0)), kU64.row (some ⟨b24, 0, none⟩) 10 ([0, 0, 0, 0, 0, 0, 0, 0, 0, 0]), refA (ptr b) img l] := hs25.front 1 (by simp)
      have hs27 : St B w l0 w22 [blk b4 (.cells [(.int .i64 gw), (.int .i64 gi), (.int .i64 gb)].toArray 61 (0, 0))] := St.take (H := [blk b4 (.cells [(.int .i64 gw), (.int .i64 gi), (.int .i64 gb)].toArray 61 (0, 0))]) hs26
      refine ops_done (by kernel_rfl) ⟨hs27, ?_⟩
      refine any_step 5 (by kernel_rfl) (by kernel_rfl) ?_
      have hs28 : St B w l0 w22 [refA (ptr b) img l, kU64.row (some ⟨b24, 0, none⟩) 10 ([0, 0, 0, 0, 0, 0, 0, 0, 0, 0]), blk b4 (.cells [(.int .i64 gw), (.int .i64 gi), (.int .i64 gb)].toArray 61 (0, 0))] := hs25.front 2 (by simp)
      refine ops_call (pre := [refA (ptr b) img l, kU64.row (some ⟨b24, 0, none⟩) 10 ([0, 0, 0, 0, 0, 0, 0, 0, 0, 0])]) hs28 (by kernel_rfl) (rall_spec (b := b) (img := img) (l := l) (at_ := (placeOf 8 gw gi gb n_)) (la := (some ⟨b24, 0, none⟩)) (lc := 10) (ws := [0, 0, 0, 0, 0, 0, 0, 0, 0, 0]) (n := 10) (hn := rfl) (hsz := (by simp only [List.length_cons, List.length_nil]; decide)) (hat := (by omega)) B _) ?_
      rintro _ _ w29 ⟨rfl, rfl⟩ hs30
      have hs31 : St B w l0 w29 [refA (ptr b) img ((vwrites img (placeOf 8 gw gi gb n_) l 0 ([0, 0, 0, 0, 0, 0, 0, 0, 0, 0])).2), blk b4 (.cells [(.int .i64 gw), (.int .i64 gi), (.int .i64 gb)].toArray 61 (0, 0))] := hs30
      have hs32 : St B w l0 w29 [blk b4 (.cells [(.int .i64 gw), (.int .i64 gi), (.int .i64 gb)].toArray 61 (0, 0)), refA (ptr b) img ((vwrites img (placeOf 8 gw gi gb n_) l 0 ([0, 0, 0, 0, 0, 0, 0, 0, 0, 0])).2)] := hs31.front 1 (by simp)
      have hs33 : St B w l0 w29 [blk b4 (.cells [(.int .i64 gw), (.int .i64 gi), (.int .i64 gb)].toArray 61 (0, 0))] := St.take (H := [blk b4 (.cells [(.int .i64 gw), (.int .i64 gi), (.int .i64 gb)].toArray 61 (0, 0))]) hs32
      refine ops_done (by kernel_rfl) ⟨hs33, ?_⟩
      refine any_val (v := (.int .i64 ((vwrites img (placeOf 8 gw gi gb n_) l 0 ([0, 0, 0, 0, 0, 0, 0, 0, 0, 0])).1))) (v' := (.int .i64 ((vwrites img (placeOf 8 gw gi gb n_) l 0 ([0, 0, 0, 0, 0, 0, 0, 0, 0, 0])).1))) 6 (by kernel_rfl) (fun _ => by kernel_rfl) rfl hs33 ?_
      refine any_done (by kernel_rfl) ?_
      refine hK15 _ _ ?_
      clear hK15
      refine W.ret ?_
      have hs34 : St B w l0 w29 [refA (ptr b) img ((vwrites img (placeOf 8 gw gi gb n_) l 0 ([0, 0, 0, 0, 0, 0, 0, 0, 0, 0])).2)] := St.take (H := [refA (ptr b) img ((vwrites img (placeOf 8 gw gi gb n_) l 0 ([0, 0, 0, 0, 0, 0, 0, 0, 0, 0])).2)]) hs31
      have e1_ : (iwipeM img l gw gi gb n_).1 = (vwrites img (placeOf 8 gw gi gb n_) l 0 ([0, 0, 0, 0, 0, 0, 0, 0, 0, 0])).1 := by first | (exfalso; omega) | (simp only [iwipeM]; first | (rw [if_neg (by assumption)]; try rfl; done) | (rw [if_pos (by assumption), hrg.2.2 (by assumption)]; try rfl; done))
      have e2_ : (iwipeM img l gw gi gb n_).2 = (vwrites img (placeOf 8 gw gi gb n_) l 0 ([0, 0, 0, 0, 0, 0, 0, 0, 0, 0])).2 := by first | (exfalso; omega) | (simp only [iwipeM]; first | (rw [if_neg (by assumption)]; try rfl; done) | (rw [if_pos (by assumption), hrg.2.2 (by assumption)]; try rfl; done))
      refine ret_of (.int .i64 ((vwrites img (placeOf 8 gw gi gb n_) l 0 ([0, 0, 0, 0, 0, 0, 0, 0, 0, 0])).1)) (by kernel_rfl) ⟨_, ⟨by rw [e1_], by rw [e2_]⟩, hs34⟩
    ·
      refine ops_new (fun b => .slice (some ⟨b, 0, none⟩) 10 10) (.cells (kU64.cells [0, 0, 0, 0, 0, 0, 0, 0, 0, 0]).toArray 33 (0, 0)) hs16 (by kernel_rfl) (fun b37 w35 hs36 => ?_)
      have hs38 : St B w l0 w35 [kU64.row (some ⟨b37, 0, none⟩) 10 ([0, 0, 0, 0, 0, 0, 0, 0, 0, 0]), blk b4 (.cells [(.int .i64 gw), (.int .i64 gi), (.int .i64 gb)].toArray 61 (0, 0)), refA (ptr b) img l] := St.kblk kU64 [0, 0, 0, 0, 0, 0, 0, 0, 0, 0] hs36 rfl rfl (by decide)
      have hs39 : St B w l0 w35 [blk b4 (.cells [(.int .i64 gw), (.int .i64 gi), (.int .i64 gb)].toArray 61 (0, 0)), kU64.row (some ⟨b37, 0, none⟩) 10 ([0, 0, 0, 0, 0, 0, 0, 0, 0, 0]), refA (ptr b) img l] := hs38.front 1 (by simp)
      have hs40 : St B w l0 w35 [blk b4 (.cells [(.int .i64 gw), (.int .i64 gi), (.int .i64 gb)].toArray 61 (0, 0))] := St.take (H := [blk b4 (.cells [(.int .i64 gw), (.int .i64 gi), (.int .i64 gb)].toArray 61 (0, 0))]) hs39
      refine ops_done (by kernel_rfl) ⟨hs40, ?_⟩
      refine any_step 3 (by kernel_rfl) (by kernel_rfl) ?_
      refine ops_call (pre := []) hs38 (by kernel_rfl) (rinodeat_spec (gw := gw) (gi := gi) (gb := gb) (n_ := n_) B _) ?_
      rintro _ _ w41 ⟨rfl, rfl⟩ hs42
      have hs43 : St B w l0 w41 [kU64.row (some ⟨b37, 0, none⟩) 10 ([0, 0, 0, 0, 0, 0, 0, 0, 0, 0]), blk b4 (.cells [(.int .i64 gw), (.int .i64 gi), (.int .i64 gb)].toArray 61 (0, 0)), refA (ptr b) img l] := hs42
      have hs44 : St B w l0 w41 [blk b4 (.cells [(.int .i64 gw), (.int .i64 gi), (.int .i64 gb)].toArray 61 (0, 0)), kU64.row (some ⟨b37, 0, none⟩) 10 ([0, 0, 0, 0, 0, 0, 0, 0, 0, 0]), refA (ptr b) img l] := hs43.front 1 (by simp)
      have hs45 : St B w l0 w41 [blk b4 (.cells [(.int .i64 gw), (.int .i64 gi), (.int .i64 gb)].toArray 61 (0, 0))] := St.take (H := [blk b4 (.cells [(.int .i64 gw), (.int .i64 gi), (.int .i64 gb)].toArray 61 (0, 0))]) hs44
      refine ops_done (by kernel_rfl) ⟨hs45, ?_⟩
      refine any_step 5 (by kernel_rfl) (by kernel_rfl) ?_
      have hs46 : St B w l0 w41 [refA (ptr b) img l, kU64.row (some ⟨b37, 0, none⟩) 10 ([0, 0, 0, 0, 0, 0, 0, 0, 0, 0]), blk b4 (.cells [(.int .i64 gw), (.int .i64 gi), (.int .i64 gb)].toArray 61 (0, 0))] := hs43.front 2 (by simp)
      refine ops_call (pre := [refA (ptr b) img l, kU64.row (some ⟨b37, 0, none⟩) 10 ([0, 0, 0, 0, 0, 0, 0, 0, 0, 0])]) hs46 (by kernel_rfl) (rall_spec (b := b) (img := img) (l := l) (at_ := (placeOf 8 gw gi gb n_)) (la := (some ⟨b37, 0, none⟩)) (lc := 10) (ws := [0, 0, 0, 0, 0, 0, 0, 0, 0, 0]) (n := 10) (hn := rfl) (hsz := (by simp only [List.length_cons, List.length_nil]; decide)) (hat := (by omega)) B _) ?_
      rintro _ _ w47 ⟨rfl, rfl⟩ hs48
      have hs49 : St B w l0 w47 [refA (ptr b) img ((vwrites img (placeOf 8 gw gi gb n_) l 0 ([0, 0, 0, 0, 0, 0, 0, 0, 0, 0])).2), blk b4 (.cells [(.int .i64 gw), (.int .i64 gi), (.int .i64 gb)].toArray 61 (0, 0))] := hs48
      have hs50 : St B w l0 w47 [blk b4 (.cells [(.int .i64 gw), (.int .i64 gi), (.int .i64 gb)].toArray 61 (0, 0)), refA (ptr b) img ((vwrites img (placeOf 8 gw gi gb n_) l 0 ([0, 0, 0, 0, 0, 0, 0, 0, 0, 0])).2)] := hs49.front 1 (by simp)
      have hs51 : St B w l0 w47 [blk b4 (.cells [(.int .i64 gw), (.int .i64 gi), (.int .i64 gb)].toArray 61 (0, 0))] := St.take (H := [blk b4 (.cells [(.int .i64 gw), (.int .i64 gi), (.int .i64 gb)].toArray 61 (0, 0))]) hs50
      refine ops_done (by kernel_rfl) ⟨hs51, ?_⟩
      refine any_val (v := (.int .i64 ((vwrites img (placeOf 8 gw gi gb n_) l 0 ([0, 0, 0, 0, 0, 0, 0, 0, 0, 0])).1))) (v' := (.int .i64 ((vwrites img (placeOf 8 gw gi gb n_) l 0 ([0, 0, 0, 0, 0, 0, 0, 0, 0, 0])).1))) 6 (by kernel_rfl) (fun _ => by kernel_rfl) rfl hs51 ?_
      refine any_done (by kernel_rfl) ?_
      refine hK15 _ _ ?_
      clear hK15
      refine W.ret ?_
      have hs52 : St B w l0 w47 [refA (ptr b) img ((vwrites img (placeOf 8 gw gi gb n_) l 0 ([0, 0, 0, 0, 0, 0, 0, 0, 0, 0])).2)] := St.take (H := [refA (ptr b) img ((vwrites img (placeOf 8 gw gi gb n_) l 0 ([0, 0, 0, 0, 0, 0, 0, 0, 0, 0])).2)]) hs49
      have e1_ : (iwipeM img l gw gi gb n_).1 = (vwrites img (placeOf 8 gw gi gb n_) l 0 ([0, 0, 0, 0, 0, 0, 0, 0, 0, 0])).1 := by first | (exfalso; omega) | (simp only [iwipeM]; first | (rw [if_neg (by assumption)]; try rfl; done) | (rw [if_pos (by assumption), hrg.2.2 (by assumption)]; try rfl; done))
      have e2_ : (iwipeM img l gw gi gb n_).2 = (vwrites img (placeOf 8 gw gi gb n_) l 0 ([0, 0, 0, 0, 0, 0, 0, 0, 0, 0])).2 := by first | (exfalso; omega) | (simp only [iwipeM]; first | (rw [if_neg (by assumption)]; try rfl; done) | (rw [if_pos (by assumption), hrg.2.2 (by assumption)]; try rfl; done))
      refine ret_of (.int .i64 ((vwrites img (placeOf 8 gw gi gb n_) l 0 ([0, 0, 0, 0, 0, 0, 0, 0, 0, 0])).1)) (by kernel_rfl) ⟨_, ⟨by rw [e1_], by rw [e2_]⟩, hs52⟩

end Go.Proofs.Ythimamnblklkbaa
