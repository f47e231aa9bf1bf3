/- Contracts of layers 6 and 7, by a program. -/
import Derived.Test.YthimamnblklkbaaF6i
namespace Go.Proofs.Ythimamnblklkbaa
open Go Go.RowKit
set_option linter.unusedSimpArgs false
set_option linter.unusedVariables false

set_option maxRecDepth 20000 in
set_option maxHeartbeats 2000000 in
theorem rg_spec {b : Nat} {img : List Int} {l : List (Int × Int)} {gw gi gb n_ : Int} (B : Nat) (w : World) (hv : RefAt (ptr b) img l w) : Spec Try.prog 40 #[(.pointer (some ⟨b, 0, none⟩)), (.agg #[(.int .i64 gw), (.int .i64 gi), (.int .i64 gb)]), (.int .i64 n_)] B w [] (fun v H' => v = (.tuple #[(.agg #[(.int .u64 ((igetM img l gw gi gb n_).1.k)), (.int .u64 ((igetM img l gw gi gb n_).1.l)), (.int .u64 ((igetM img l gw gi gb n_).1.o)), (.int .u64 ((igetM img l gw gi gb n_).1.s)), (.int .u64 ((igetM img l gw gi gb n_).1.a)), (.int .u64 ((igetM img l gw gi gb n_).1.b)), (.int .u64 ((igetM img l gw gi gb n_).1.c)), (.int .u64 ((igetM img l gw gi gb n_).1.d)), (.int .u64 ((igetM img l gw gi gb n_).1.e)), (.int .u64 ((igetM img l gw gi gb n_).1.m))]), (.int .i64 ((igetM img l gw gi gb n_).2))]) ∧ H' = []) := by
  refine spec_Q Try.func40 rfl fun hs => ?_
  have hrg := ifind_range (img.length : Int) gw gi gb n_
  refine W.seq fun K1 hK1 => ?_
  refine W.region ?_
  refine ops_new (fun b => .pointer (some ⟨b, 0, none⟩)) (.cells [(.int .i64 gw), (.int .i64 gi), (.int .i64 gb)].toArray 61 (0, 0)) hs (by kernel_rfl) (fun b4 w2 hs3 => ?_)
  refine ops_new (fun b => .pointer (some ⟨b, 0, none⟩)) (.cells [(.int .u64 0), (.int .u64 0), (.int .u64 0), (.int .u64 0), (.int .u64 0), (.int .u64 0), (.int .u64 0), (.int .u64 0), (.int .u64 0), (.int .u64 0)].toArray 76 (0, 0)) hs3 (by kernel_rfl) (fun b7 w5 hs6 => ?_)
  refine ops_run 1 (by kernel_rfl) ?_
  refine ops_done (by kernel_rfl) ?_
  refine hK1 _ _ ?_
  clear hK1
  refine W.seq fun K8 hK8 => ?_
  refine W.region ?_
  refine ops_run 1 (by kernel_rfl) ?_
  refine ops_R (runs_loadAgg (ad := ⟨b4, 0, none⟩) (cs := [(.int .i64 gw), (.int .i64 gi), (.int .i64 gb)]) (by kernel_rfl) (cells_sub (hs6.heapAt 1 rfl) rfl)) ?_
  refine ops_run 1 (by kernel_rfl) ?_
  refine ops_call (pre := []) hs6 (by kernel_rfl) (there_spec (gw := gw) (gi := gi) (gb := gb) (n_ := n_) (hv := (refAt_old hs6 hv)) B _) ?_
  rintro _ _ w9 ⟨rfl, rfl⟩ hs10
  have hs11 : St B w [] w9 [blk b7 (.cells [(.int .u64 0), (.int .u64 0), (.int .u64 0), (.int .u64 0), (.int .u64 0), (.int .u64 0), (.int .u64 0), (.int .u64 0), (.int .u64 0), (.int .u64 0)].toArray 76 (0, 0)), blk b4 (.cells [(.int .i64 gw), (.int .i64 gi), (.int .i64 gb)].toArray 61 (0, 0))] := hs10
  refine ops_run 1 (by kernel_rfl) ?_
  refine ops_done (by kernel_rfl) ?_
  refine hK8 _ _ ?_
  clear hK8
  refine W.seq fun K12 hK12 => ?_
  refine W.seq fun K13 hK13 => ?_
  refine W.region ?_
  refine ops_run 2 (by kernel_rfl) ?_
  refine ops_done (by kernel_rfl) ?_
  refine hK13 _ _ ?_
  clear hK13
  refine W.cond (!decide ((ifind (img.length : Int) gw gi gb n_).2 = 0)) (by kernel_rfl) (fun h14 => ?_) (fun h14 => ?_)
  ·
    have h14p : ¬ ((ifind (img.length : Int) gw gi gb n_).2 = 0) := of_decide_eq_false (bnot_true h14)
    refine W.seq fun K15 hK15 => ?_
    refine W.region ?_
    refine ops_run 2 (by kernel_rfl) ?_
    refine ops_store (off := 0) (cs := [(.int .u64 0), (.int .u64 0), (.int .u64 0), (.int .u64 0), (.int .u64 0), (.int .u64 0), (.int .u64 0), (.int .u64 0), (.int .u64 0), (.int .u64 0)]) (vs := [(.int .u64 0), (.int .u64 0), (.int .u64 0), (.int .u64 0), (.int .u64 0), (.int .u64 0), (.int .u64 0), (.int .u64 0), (.int .u64 0), (.int .u64 0)]) hs11 (by kernel_rfl) (by simp) rfl (fun w16 hs17 => ?_)
    have hs18 : St B w [] w16 [blk b7 (.cells [(.int .u64 0), (.int .u64 0), (.int .u64 0), (.int .u64 0), (.int .u64 0), (.int .u64 0), (.int .u64 0), (.int .u64 0), (.int .u64 0), (.int .u64 0)].toArray 76 (0, 0)), blk b4 (.cells [(.int .i64 gw), (.int .i64 gi), (.int .i64 gb)].toArray 61 (0, 0))] := hs17
    refine ops_run 1 (by kernel_rfl) ?_
    refine ops_done (by kernel_rfl) ?_
    refine hK15 _ _ ?_
    clear hK15
    refine W.ret (ret_seq ?_)
    have e_ : igetM img l gw gi gb n_ = (Nd.zero, (ifind (img.length : Int) gw gi gb n_).2) := by first | (exfalso; omega) | (simp only [igetM]; exact if_neg (by assumption))
    have hs19 : St B w [] w16 [] := St.take (H := []) hs18
    refine ret_of (.tuple #[(.agg #[(.int .u64 0), (.int .u64 0), (.int .u64 0), (.int .u64 0), (.int .u64 0), (.int .u64 0), (.int .u64 0), (.int .u64 0), (.int .u64 0), (.int .u64 0)]), (.int .i64 ((ifind (img.length : Int) gw gi gb n_).2))]) (results_cell2 (ad := ⟨b7, 0, none⟩) (cs := [(.int .u64 0), (.int .u64 0), (.int .u64 0), (.int .u64 0), (.int .u64 0), (.int .u64 0), (.int .u64 0), (.int .u64 0), (.int .u64 0), (.int .u64 0)]) rfl (by kernel_rfl) (by kernel_rfl) (by kernel_rfl) (cells_sub (hs18.heapAt 0 rfl) rfl)) ⟨_, ⟨by rw [e_]; try rfl, rfl⟩, hs19⟩
  ·
    have h14p : (ifind (img.length : Int) gw gi gb n_).2 = 0 := of_decide_eq_true (bnot_false h14)
    refine W.skip ?_
    refine hK12 _ _ ?_
    clear hK12
    refine W.seq fun K20 hK20 => ?_
    refine W.region ?_
    refine ops_R (runs_loadAgg (ad := ⟨b4, 0, none⟩) (cs := [(.int .i64 gw), (.int .i64 gi), (.int .i64 gb)]) (by kernel_rfl) (cells_sub (hs11.heapAt 1 rfl) rfl)) ?_
    refine ops_run 1 (by kernel_rfl) ?_
    refine ops_call (pre := []) hs11 (by kernel_rfl) (rinodeat_spec (gw := gw) (gi := gi) (gb := gb) (n_ := n_) B _) ?_
    rintro _ _ w21 ⟨rfl, rfl⟩ hs22
    have hs23 : St B w [] w21 [blk b7 (.cells [(.int .u64 0), (.int .u64 0), (.int .u64 0), (.int .u64 0), (.int .u64 0), (.int .u64 0), (.int .u64 0), (.int .u64 0), (.int .u64 0), (.int .u64 0)].toArray 76 (0, 0)), blk b4 (.cells [(.int .i64 gw), (.int .i64 gi), (.int .i64 gb)].toArray 61 (0, 0))] := hs22
    refine ops_run 1 (by kernel_rfl) ?_
    refine ops_done (by kernel_rfl) ?_
    refine hK20 _ _ ?_
    clear hK20
    refine W.seq fun K24 hK24 => ?_
    refine W.region ?_
    refine ops_run 2 (by kernel_rfl) ?_
    refine ops_call (pre := []) hs23 (by kernel_rfl) (rget_spec (at_ := (placeOf 8 gw gi gb n_)) (hv := (refAt_old hs23 hv)) B _) ?_
    rintro _ _ w25 ⟨rfl, rfl⟩ hs26
    have hs27 : St B w [] w25 [blk b7 (.cells [(.int .u64 0), (.int .u64 0), (.int .u64 0), (.int .u64 0), (.int .u64 0), (.int .u64 0), (.int .u64 0), (.int .u64 0), (.int .u64 0), (.int .u64 0)].toArray 76 (0, 0)), blk b4 (.cells [(.int .i64 gw), (.int .i64 gi), (.int .i64 gb)].toArray 61 (0, 0))] := hs26
    refine ops_run 2 (by kernel_rfl) ?_
    refine ops_val (v := .int .i64 (IntKind.i64.wrap ((placeOf 8 gw gi gb n_) + 1))) (v' := .int .i64 ((placeOf 8 gw gi gb n_) + 1)) (by kernel_rfl) (congrArg (Value.int .i64) (wrap_i64 (by omega) (by omega))) ?_
    refine ops_call (pre := []) hs27 (by kernel_rfl) (rget_spec (at_ := ((placeOf 8 gw gi gb n_) + 1)) (hv := (refAt_old hs27 hv)) B _) ?_
    rintro _ _ w28 ⟨rfl, rfl⟩ hs29
    have hs30 : St B w [] w28 [blk b7 (.cells [(.int .u64 0), (.int .u64 0), (.int .u64 0), (.int .u64 0), (.int .u64 0), (.int .u64 0), (.int .u64 0), (.int .u64 0), (.int .u64 0), (.int .u64 0)].toArray 76 (0, 0)), blk b4 (.cells [(.int .i64 gw), (.int .i64 gi), (.int .i64 gb)].toArray 61 (0, 0))] := hs29
    refine ops_run 2 (by kernel_rfl) ?_
    refine ops_val (v := .int .i64 (IntKind.i64.wrap ((placeOf 8 gw gi gb n_) + 2))) (v' := .int .i64 ((placeOf 8 gw gi gb n_) + 2)) (by kernel_rfl) (congrArg (Value.int .i64) (wrap_i64 (by omega) (by omega))) ?_
    refine ops_call (pre := []) hs30 (by kernel_rfl) (rget_spec (at_ := ((placeOf 8 gw gi gb n_) + 2)) (hv := (refAt_old hs30 hv)) B _) ?_
    rintro _ _ w31 ⟨rfl, rfl⟩ hs32
    have hs33 : St B w [] w31 [blk b7 (.cells [(.int .u64 0), (.int .u64 0), (.int .u64 0), (.int .u64 0), (.int .u64 0), (.int .u64 0), (.int .u64 0), (.int .u64 0), (.int .u64 0), (.int .u64 0)].toArray 76 (0, 0)), blk b4 (.cells [(.int .i64 gw), (.int .i64 gi), (.int .i64 gb)].toArray 61 (0, 0))] := hs32
    refine ops_run 2 (by kernel_rfl) ?_
    refine ops_val (v := .int .i64 (IntKind.i64.wrap ((placeOf 8 gw gi gb n_) + 3))) (v' := .int .i64 ((placeOf 8 gw gi gb n_) + 3)) (by kernel_rfl) (congrArg (Value.int .i64) (wrap_i64 (by omega) (by omega))) ?_
    refine ops_call (pre := []) hs33 (by kernel_rfl) (rget_spec (at_ := ((placeOf 8 gw gi gb n_) + 3)) (hv := (refAt_old hs33 hv)) B _) ?_
    rintro _ _ w34 ⟨rfl, rfl⟩ hs35
    have hs36 : St B w [] w34 [blk b7 (.cells [(.int .u64 0), (.int .u64 0), (.int .u64 0), (.int .u64 0), (.int .u64 0), (.int .u64 0), (.int .u64 0), (.int .u64 0), (.int .u64 0), (.int .u64 0)].toArray 76 (0, 0)), blk b4 (.cells [(.int .i64 gw), (.int .i64 gi), (.int .i64 gb)].toArray 61 (0, 0))] := hs35
    refine ops_run 2 (by kernel_rfl) ?_
    refine ops_val (v := .int .i64 (IntKind.i64.wrap ((placeOf 8 gw gi gb n_) + 8))) (v' := .int .i64 ((placeOf 8 gw gi gb n_) + 8)) (by kernel_rfl) (congrArg (Value.int .i64) (wrap_i64 (by omega) (by omega))) ?_
    refine ops_call (pre := []) hs36 (by kernel_rfl) (rget_spec (at_ := ((placeOf 8 gw gi gb n_) + 8)) (hv := (refAt_old hs36 hv)) B _) ?_
    rintro _ _ w37 ⟨rfl, rfl⟩ hs38
    have hs39 : St B w [] w37 [blk b7 (.cells [(.int .u64 0), (.int .u64 0), (.int .u64 0), (.int .u64 0), (.int .u64 0), (.int .u64 0), (.int .u64 0), (.int .u64 0), (.int .u64 0), (.int .u64 0)].toArray 76 (0, 0)), blk b4 (.cells [(.int .i64 gw), (.int .i64 gi), (.int .i64 gb)].toArray 61 (0, 0))] := hs38
    refine ops_run 2 (by kernel_rfl) ?_
    refine ops_val (v := .int .i64 (IntKind.i64.wrap ((placeOf 8 gw gi gb n_) + 9))) (v' := .int .i64 ((placeOf 8 gw gi gb n_) + 9)) (by kernel_rfl) (congrArg (Value.int .i64) (wrap_i64 (by omega) (by omega))) ?_
    refine ops_call (pre := []) hs39 (by kernel_rfl) (rget_spec (at_ := ((placeOf 8 gw gi gb n_) + 9)) (hv := (refAt_old hs39 hv)) B _) ?_
    rintro _ _ w40 ⟨rfl, rfl⟩ hs41
    have hs42 : St B w [] w40 [blk b7 (.cells [(.int .u64 0), (.int .u64 0), (.int .u64 0), (.int .u64 0), (.int .u64 0), (.int .u64 0), (.int .u64 0), (.int .u64 0), (.int .u64 0), (.int .u64 0)].toArray 76 (0, 0)), blk b4 (.cells [(.int .i64 gw), (.int .i64 gi), (.int .i64 gb)].toArray 61 (0, 0))] := hs41
    refine ops_run 1 (by kernel_rfl) ?_
    refine ops_new (fun b => .pointer (some ⟨b, 0, none⟩)) (.cells [(.int .u64 0), (.int .u64 0), (.int .u64 0), (.int .u64 0), (.int .u64 0), (.int .u64 0), (.int .u64 0), (.int .u64 0), (.int .u64 0), (.int .u64 0)].toArray 76 (0, 0)) hs42 (by kernel_rfl) (fun b45 w43 hs44 => ?_)
    refine ops_store (off := 0) (cs := [(.int .u64 0), (.int .u64 0), (.int .u64 0), (.int .u64 0), (.int .u64 0), (.int .u64 0), (.int .u64 0), (.int .u64 0), (.int .u64 0), (.int .u64 0)]) (vs := [(.int .u64 (vget img l (placeOf 8 gw gi gb n_))), (.int .u64 (vget img l ((placeOf 8 gw gi gb n_) + 1))), (.int .u64 (vget img l ((placeOf 8 gw gi gb n_) + 2))), (.int .u64 (vget img l ((placeOf 8 gw gi gb n_) + 3))), (.int .u64 0), (.int .u64 0), (.int .u64 0), (.int .u64 0), (.int .u64 (vget img l ((placeOf 8 gw gi gb n_) + 8))), (.int .u64 (vget img l ((placeOf 8 gw gi gb n_) + 9)))]) hs44 (by kernel_rfl) (by simp) rfl (fun w46 hs47 => ?_)
    have hs48 : St B w [] w46 [blk b45 (.cells [(.int .u64 (vget img l (placeOf 8 gw gi gb n_))), (.int .u64 (vget img l ((placeOf 8 gw gi gb n_) + 1))), (.int .u64 (vget img l ((placeOf 8 gw gi gb n_) + 2))), (.int .u64 (vget img l ((placeOf 8 gw gi gb n_) + 3))), (.int .u64 0), (.int .u64 0), (.int .u64 0), (.int .u64 0), (.int .u64 (vget img l ((placeOf 8 gw gi gb n_) + 8))), (.int .u64 (vget img l ((placeOf 8 gw gi gb n_) + 9)))].toArray 76 (0, 0)), blk b7 (.cells [(.int .u64 0), (.int .u64 0), (.int .u64 0), (.int .u64 0), (.int .u64 0), (.int .u64 0), (.int .u64 0), (.int .u64 0), (.int .u64 0), (.int .u64 0)].toArray 76 (0, 0)), blk b4 (.cells [(.int .i64 gw), (.int .i64 gi), (.int .i64 gb)].toArray 61 (0, 0))] := hs47
    refine ops_done (by kernel_rfl) ?_
    refine hK24 _ _ ?_
    clear hK24
    refine W.seq fun K49 hK49 => ?_
    refine W.seq fun K50 hK50 => ?_
    refine W.region ?_
    refine ops_run 1 (by kernel_rfl) ?_
    refine ops_done (by kernel_rfl) ?_
    refine hK50 _ _ ?_
    clear hK50
    refine W.block ?_
    refine W.loop_start ?_
    refine loopAt_round ?_
    refine W.seq fun K51 hK51 => ?_
    refine W.seq fun K52 hK52 => ?_
    refine W.region ?_
    refine ops_run 2 (by kernel_rfl) ?_
    refine ops_done (by kernel_rfl) ?_
    refine hK52 _ _ ?_
    clear hK52
    refine W.cond_true true (by kernel_rfl) rfl ?_
    refine W.skip ?_
    refine hK51 _ _ ?_
    clear hK51
    refine W.seq fun K53 hK53 => ?_
    refine W.block ?_
    refine W.region ?_
    refine ops_run 3 (by kernel_rfl) ?_
    refine ops_val (v := .int .i64 (IntKind.i64.wrap ((placeOf 8 gw gi gb n_) + 4))) (v' := .int .i64 ((placeOf 8 gw gi gb n_) + 4)) (by kernel_rfl) (congrArg (Value.int .i64) (wrap_i64 (by omega) (by omega))) ?_
    refine ops_run 1 (by kernel_rfl) ?_
    refine ops_val (v := .int .i64 (IntKind.i64.wrap (((placeOf 8 gw gi gb n_) + 4) + 0))) (v' := .int .i64 (((placeOf 8 gw gi gb n_) + 4) + 0)) (by kernel_rfl) (congrArg (Value.int .i64) (wrap_i64 (by omega) (by omega))) ?_
    refine ops_call (pre := []) hs48 (by kernel_rfl) (rget_spec (at_ := (((placeOf 8 gw gi gb n_) + 4) + 0)) (hv := (refAt_old hs48 hv)) B _) ?_
    rintro _ _ w54 ⟨rfl, rfl⟩ hs55
    have hs56 : St B w [] w54 [blk b45 (.cells [(.int .u64 (vget img l (placeOf 8 gw gi gb n_))), (.int .u64 (vget img l ((placeOf 8 gw gi gb n_) + 1))), (.int .u64 (vget img l ((placeOf 8 gw gi gb n_) + 2))), (.int .u64 (vget img l ((placeOf 8 gw gi gb n_) + 3))), (.int .u64 0), (.int .u64 0), (.int .u64 0), (.int .u64 0), (.int .u64 (vget img l ((placeOf 8 gw gi gb n_) + 8))), (.int .u64 (vget img l ((placeOf 8 gw gi gb n_) + 9)))].toArray 76 (0, 0)), blk b7 (.cells [(.int .u64 0), (.int .u64 0), (.int .u64 0), (.int .u64 0), (.int .u64 0), (.int .u64 0), (.int .u64 0), (.int .u64 0), (.int .u64 0), (.int .u64 0)].toArray 76 (0, 0)), blk b4 (.cells [(.int .i64 gw), (.int .i64 gi), (.int .i64 gb)].toArray 61 (0, 0))] := hs55
    refine ops_run 2 (by kernel_rfl) ?_
    refine ops_store (off := 4) (cs := [(.int .u64 (vget img l (placeOf 8 gw gi gb n_))), (.int .u64 (vget img l ((placeOf 8 gw gi gb n_) + 1))), (.int .u64 (vget img l ((placeOf 8 gw gi gb n_) + 2))), (.int .u64 (vget img l ((placeOf 8 gw gi gb n_) + 3))), (.int .u64 0), (.int .u64 0), (.int .u64 0), (.int .u64 0), (.int .u64 (vget img l ((placeOf 8 gw gi gb n_) + 8))), (.int .u64 (vget img l ((placeOf 8 gw gi gb n_) + 9)))]) (vs := [(.int .u64 (vget img l (((placeOf 8 gw gi gb n_) + 4) + 0)))]) hs56 (by kernel_rfl) (by simp) rfl (fun w57 hs58 => ?_)
    have hs59 : St B w [] w57 [blk b45 (.cells [(.int .u64 (vget img l (placeOf 8 gw gi gb n_))), (.int .u64 (vget img l ((placeOf 8 gw gi gb n_) + 1))), (.int .u64 (vget img l ((placeOf 8 gw gi gb n_) + 2))), (.int .u64 (vget img l ((placeOf 8 gw gi gb n_) + 3))), (.int .u64 (vget img l (((placeOf 8 gw gi gb n_) + 4) + 0))), (.int .u64 0), (.int .u64 0), (.int .u64 0), (.int .u64 (vget img l ((placeOf 8 gw gi gb n_) + 8))), (.int .u64 (vget img l ((placeOf 8 gw gi gb n_) + 9)))].toArray 76 (0, 0)), blk b7 (.cells [(.int .u64 0), (.int .u64 0), (.int .u64 0), (.int .u64 0), (.int .u64 0), (.int .u64 0), (.int .u64 0), (.int .u64 0), (.int .u64 0), (.int .u64 0)].toArray 76 (0, 0)), blk b4 (.cells [(.int .i64 gw), (.int .i64 gi), (.int .i64 gb)].toArray 61 (0, 0))] := hs58
    refine ops_done (by kernel_rfl) ?_
    refine normal_block ?_
    refine hK53 _ _ ?_
    clear hK53
    refine W.region ?_
    refine ops_run 3 (by kernel_rfl) ?_
    refine ops_done (by kernel_rfl) ?_
    refine loopAt_next ?_
    refine loopAt_round ?_
    refine W.seq fun K60 hK60 => ?_
    refine W.seq fun K61 hK61 => ?_
    refine W.region ?_
    refine ops_run 2 (by kernel_rfl) ?_
    refine ops_done (by kernel_rfl) ?_
    refine hK61 _ _ ?_
    clear hK61
    refine W.cond_true true (by kernel_rfl) rfl ?_
    refine W.skip ?_
    refine hK60 _ _ ?_
    clear hK60
    refine W.seq fun K62 hK62 => ?_
    refine W.block ?_
    refine W.region ?_
    refine ops_run 3 (by kernel_rfl) ?_
    refine ops_val (v := .int .i64 (IntKind.i64.wrap ((placeOf 8 gw gi gb n_) + 4))) (v' := .int .i64 ((placeOf 8 gw gi gb n_) + 4)) (by kernel_rfl) (congrArg (Value.int .i64) (wrap_i64 (by omega) (by omega))) ?_
    refine ops_run 1 (by kernel_rfl) ?_
    refine ops_val (v := .int .i64 (IntKind.i64.wrap (((placeOf 8 gw gi gb n_) + 4) + 1))) (v' := .int .i64 (((placeOf 8 gw gi gb n_) + 4) + 1)) (by kernel_rfl) (congrArg (Value.int .i64) (wrap_i64 (by omega) (by omega))) ?_
    refine ops_call (pre := []) hs59 (by kernel_rfl) (rget_spec (at_ := (((placeOf 8 gw gi gb n_) + 4) + 1)) (hv := (refAt_old hs59 hv)) B _) ?_
    rintro _ _ w63 ⟨rfl, rfl⟩ hs64
    have hs65 : St B w [] w63 [blk b45 (.cells [(.int .u64 (vget img l (placeOf 8 gw gi gb n_))), (.int .u64 (vget img l ((placeOf 8 gw gi gb n_) + 1))), (.int .u64 (vget img l ((placeOf 8 gw gi gb n_) + 2))), (.int .u64 (vget img l ((placeOf 8 gw gi gb n_) + 3))), (.int .u64 (vget img l (((placeOf 8 gw gi gb n_) + 4) + 0))), (.int .u64 0), (.int .u64 0), (.int .u64 0), (.int .u64 (vget img l ((placeOf 8 gw gi gb n_) + 8))), (.int .u64 (vget img l ((placeOf 8 gw gi gb n_) + 9)))].toArray 76 (0, 0)), blk b7 (.cells [(.int .u64 0), (.int .u64 0), (.int .u64 0), (.int .u64 0), (.int .u64 0), (.int .u64 0), (.int .u64 0), (.int .u64 0), (.int .u64 0), (.int .u64 0)].toArray 76 (0, 0)), blk b4 (.cells [(.int .i64 gw), (.int .i64 gi), (.int .i64 gb)].toArray 61 (0, 0))] := hs64
    refine ops_run 2 (by kernel_rfl) ?_
    refine ops_store (off := 5) (cs := [(.int .u64 (vget img l (placeOf 8 gw gi gb n_))), (.int .u64 (vget img l ((placeOf 8 gw gi gb n_) + 1))), (.int .u64 (vget img l ((placeOf 8 gw gi gb n_) + 2))), (.int .u64 (vget img l ((placeOf 8 gw gi gb n_) + 3))), (.int .u64 (vget img l (((placeOf 8 gw gi gb n_) + 4) + 0))), (.int .u64 0), (.int .u64 0), (.int .u64 0), (.int .u64 (vget img l ((placeOf 8 gw gi gb n_) + 8))), (.int .u64 (vget img l ((placeOf 8 gw gi gb n_) + 9)))]) (vs := [(.int .u64 (vget img l (((placeOf 8 gw gi gb n_) + 4) + 1)))]) hs65 (by kernel_rfl) (by simp) rfl (fun w66 hs67 => ?_)
    have hs68 : St B w [] w66 [blk b45 (.cells [(.int .u64 (vget img l (placeOf 8 gw gi gb n_))), (.int .u64 (vget img l ((placeOf 8 gw gi gb n_) + 1))), (.int .u64 (vget img l ((placeOf 8 gw gi gb n_) + 2))), (.int .u64 (vget img l ((placeOf 8 gw gi gb n_) + 3))), (.int .u64 (vget img l (((placeOf 8 gw gi gb n_) + 4) + 0))), (.int .u64 (vget img l (((placeOf 8 gw gi gb n_) + 4) + 1))), (.int .u64 0), (.int .u64 0), (.int .u64 (vget img l ((placeOf 8 gw gi gb n_) + 8))), (.int .u64 (vget img l ((placeOf 8 gw gi gb n_) + 9)))].toArray 76 (0, 0)), blk b7 (.cells [(.int .u64 0), (.int .u64 0), (.int .u64 0), (.int .u64 0), (.int .u64 0), (.int .u64 0), (.int .u64 0), (.int .u64 0), (.int .u64 0), (.int .u64 0)].toArray 76 (0, 0)), blk b4 (.cells [(.int .i64 gw), (.int .i64 gi), (.int .i64 gb)].toArray 61 (0, 0))] := hs67
    refine ops_done (by kernel_rfl) ?_
    refine normal_block ?_
    refine hK62 _ _ ?_
    clear hK62
    refine W.region ?_
    refine ops_run 3 (by kernel_rfl) ?_
    refine ops_done (by kernel_rfl) ?_
    refine loopAt_next ?_
    refine loopAt_round ?_
    refine W.seq fun K69 hK69 => ?_
    refine W.seq fun K70 hK70 => ?_
    refine W.region ?_
    refine ops_run 2 (by kernel_rfl) ?_
    refine ops_done (by kernel_rfl) ?_
    refine hK70 _ _ ?_
    clear hK70
    refine W.cond_true true (by kernel_rfl) rfl ?_
    refine W.skip ?_
    refine hK69 _ _ ?_
    clear hK69
    refine W.seq fun K71 hK71 => ?_
    refine W.block ?_
    refine W.region ?_
    refine ops_run 3 (by kernel_rfl) ?_
    refine ops_val (v := .int .i64 (IntKind.i64.wrap ((placeOf 8 gw gi gb n_) + 4))) (v' := .int .i64 ((placeOf 8 gw gi gb n_) + 4)) (by kernel_rfl) (congrArg (Value.int .i64) (wrap_i64 (by omega) (by omega))) ?_
    refine ops_run 1 (by kernel_rfl) ?_
    refine ops_val (v := .int .i64 (IntKind.i64.wrap (((placeOf 8 gw gi gb n_) + 4) + 2))) (v' := .int .i64 (((placeOf 8 gw gi gb n_) + 4) + 2)) (by kernel_rfl) (congrArg (Value.int .i64) (wrap_i64 (by omega) (by omega))) ?_
    refine ops_call (pre := []) hs68 (by kernel_rfl) (rget_spec (at_ := (((placeOf 8 gw gi gb n_) + 4) + 2)) (hv := (refAt_old hs68 hv)) B _) ?_
    rintro _ _ w72 ⟨rfl, rfl⟩ hs73
    have hs74 : St B w [] w72 [blk b45 (.cells [(.int .u64 (vget img l (placeOf 8 gw gi gb n_))), (.int .u64 (vget img l ((placeOf 8 gw gi gb n_) + 1))), (.int .u64 (vget img l ((placeOf 8 gw gi gb n_) + 2))), (.int .u64 (vget img l ((placeOf 8 gw gi gb n_) + 3))), (.int .u64 (vget img l (((placeOf 8 gw gi gb n_) + 4) + 0))), (.int .u64 (vget img l (((placeOf 8 gw gi gb n_) + 4) + 1))), (.int .u64 0), (.int .u64 0), (.int .u64 (vget img l ((placeOf 8 gw gi gb n_) + 8))), (.int .u64 (vget img l ((placeOf 8 gw gi gb n_) + 9)))].toArray 76 (0, 0)), blk b7 (.cells [(.int .u64 0), (.int .u64 0), (.int .u64 0), (.int .u64 0), (.int .u64 0), (.int .u64 0), (.int .u64 0), (.int .u64 0), (.int .u64 0), (.int .u64 0)].toArray 76 (0, 0)), blk b4 (.cells [(.int .i64 gw), (.int .i64 gi), (.int .i64 gb)].toArray 61 (0, 0))] := hs73
    refine ops_run 2 (by kernel_rfl) ?_
    refine ops_store (off := 6) (cs := [(.int .u64 (vget img l (placeOf 8 gw gi gb n_))), (.int .u64 (vget img l ((placeOf 8 gw gi gb n_) + 1))), (.int .u64 (vget img l ((placeOf 8 gw gi gb n_) + 2))), (.int .u64 (vget img l ((placeOf 8 gw gi gb n_) + 3))), (.int .u64 (vget img l (((placeOf 8 gw gi gb n_) + 4) + 0))), (.int .u64 (vget img l (((placeOf 8 gw gi gb n_) + 4) + 1))), (.int .u64 0), (.int .u64 0), (.int .u64 (vget img l ((placeOf 8 gw gi gb n_) + 8))), (.int .u64 (vget img l ((placeOf 8 gw gi gb n_) + 9)))]) (vs := [(.int .u64 (vget img l (((placeOf 8 gw gi gb n_) + 4) + 2)))]) hs74 (by kernel_rfl) (by simp) rfl (fun w75 hs76 => ?_)
    have hs77 : St B w [] w75 [blk b45 (.cells [(.int .u64 (vget img l (placeOf 8 gw gi gb n_))), (.int .u64 (vget img l ((placeOf 8 gw gi gb n_) + 1))), (.int .u64 (vget img l ((placeOf 8 gw gi gb n_) + 2))), (.int .u64 (vget img l ((placeOf 8 gw gi gb n_) + 3))), (.int .u64 (vget img l (((placeOf 8 gw gi gb n_) + 4) + 0))), (.int .u64 (vget img l (((placeOf 8 gw gi gb n_) + 4) + 1))), (.int .u64 (vget img l (((placeOf 8 gw gi gb n_) + 4) + 2))), (.int .u64 0), (.int .u64 (vget img l ((placeOf 8 gw gi gb n_) + 8))), (.int .u64 (vget img l ((placeOf 8 gw gi gb n_) + 9)))].toArray 76 (0, 0)), blk b7 (.cells [(.int .u64 0), (.int .u64 0), (.int .u64 0), (.int .u64 0), (.int .u64 0), (.int .u64 0), (.int .u64 0), (.int .u64 0), (.int .u64 0), (.int .u64 0)].toArray 76 (0, 0)), blk b4 (.cells [(.int .i64 gw), (.int .i64 gi), (.int .i64 gb)].toArray 61 (0, 0))] := hs76
    refine ops_done (by kernel_rfl) ?_
    refine normal_block ?_
    refine hK71 _ _ ?_
    clear hK71
    refine W.region ?_
    refine ops_run 3 (by kernel_rfl) ?_
    refine ops_done (by kernel_rfl) ?_
    refine loopAt_next ?_
    refine loopAt_round ?_
    refine W.seq fun K78 hK78 => ?_
    refine W.seq fun K79 hK79 => ?_
    refine W.region ?_
    refine ops_run 2 (by kernel_rfl) ?_
    refine ops_done (by kernel_rfl) ?_
    refine hK79 _ _ ?_
    clear hK79
    refine W.cond_true true (by kernel_rfl) rfl ?_
    refine W.skip ?_
    refine hK78 _ _ ?_
    clear hK78
    refine W.seq fun K80 hK80 => ?_
    refine W.block ?_
    refine W.region ?_
    refine ops_run 3 (by kernel_rfl) ?_
    refine ops_val (v := .int .i64 (IntKind.i64.wrap ((placeOf 8 gw gi gb n_) + 4))) (v' := .int .i64 ((placeOf 8 gw gi gb n_) + 4)) (by kernel_rfl) (congrArg (Value.int .i64) (wrap_i64 (by omega) (by omega))) ?_
    refine ops_run 1 (by kernel_rfl) ?_
    refine ops_val (v := .int .i64 (IntKind.i64.wrap (((placeOf 8 gw gi gb n_) + 4) + 3))) (v' := .int .i64 (((placeOf 8 gw gi gb n_) + 4) + 3)) (by kernel_rfl) (congrArg (Value.int .i64) (wrap_i64 (by omega) (by omega))) ?_
    refine ops_call (pre := []) hs77 (by kernel_rfl) (rget_spec (at_ := (((placeOf 8 gw gi gb n_) + 4) + 3)) (hv := (refAt_old hs77 hv)) B _) ?_
    rintro _ _ w81 ⟨rfl, rfl⟩ hs82
    have hs83 : St B w [] w81 [blk b45 (.cells [(.int .u64 (vget img l (placeOf 8 gw gi gb n_))), (.int .u64 (vget img l ((placeOf 8 gw gi gb n_) + 1))), (.int .u64 (vget img l ((placeOf 8 gw gi gb n_) + 2))), (.int .u64 (vget img l ((placeOf 8 gw gi gb n_) + 3))), (.int .u64 (vget img l (((placeOf 8 gw gi gb n_) + 4) + 0))), (.int .u64 (vget img l (((placeOf 8 gw gi gb n_) + 4) + 1))), (.int .u64 (vget img l (((placeOf 8 gw gi gb n_) + 4) + 2))), (.int .u64 0), (.int .u64 (vget img l ((placeOf 8 gw gi gb n_) + 8))), (.int .u64 (vget img l ((placeOf 8 gw gi gb n_) + 9)))].toArray 76 (0, 0)), blk b7 (.cells [(.int .u64 0), (.int .u64 0), (.int .u64 0), (.int .u64 0), (.int .u64 0), (.int .u64 0), (.int .u64 0), (.int .u64 0), (.int .u64 0), (.int .u64 0)].toArray 76 (0, 0)), blk b4 (.cells [(.int .i64 gw), (.int .i64 gi), (.int .i64 gb)].toArray 61 (0, 0))] := hs82
    refine ops_run 2 (by kernel_rfl) ?_
    refine ops_store (off := 7) (cs := [(.int .u64 (vget img l (placeOf 8 gw gi gb n_))), (.int .u64 (vget img l ((placeOf 8 gw gi gb n_) + 1))), (.int .u64 (vget img l ((placeOf 8 gw gi gb n_) + 2))), (.int .u64 (vget img l ((placeOf 8 gw gi gb n_) + 3))), (.int .u64 (vget img l (((placeOf 8 gw gi gb n_) + 4) + 0))), (.int .u64 (vget img l (((placeOf 8 gw gi gb n_) + 4) + 1))), (.int .u64 (vget img l (((placeOf 8 gw gi gb n_) + 4) + 2))), (.int .u64 0), (.int .u64 (vget img l ((placeOf 8 gw gi gb n_) + 8))), (.int .u64 (vget img l ((placeOf 8 gw gi gb n_) + 9)))]) (vs := [(.int .u64 (vget img l (((placeOf 8 gw gi gb n_) + 4) + 3)))]) hs83 (by kernel_rfl) (by simp) rfl (fun w84 hs85 => ?_)
    have hs86 : St B w [] w84 [blk b45 (.cells [(.int .u64 (vget img l (placeOf 8 gw gi gb n_))), (.int .u64 (vget img l ((placeOf 8 gw gi gb n_) + 1))), (.int .u64 (vget img l ((placeOf 8 gw gi gb n_) + 2))), (.int .u64 (vget img l ((placeOf 8 gw gi gb n_) + 3))), (.int .u64 (vget img l (((placeOf 8 gw gi gb n_) + 4) + 0))), (.int .u64 (vget img l (((placeOf 8 gw gi gb n_) + 4) + 1))), (.int .u64 (vget img l (((placeOf 8 gw gi gb n_) + 4) + 2))), (.int .u64 (vget img l (((placeOf 8 gw gi gb n_) + 4) + 3))), (.int .u64 (vget img l ((placeOf 8 gw gi gb n_) + 8))), (.int .u64 (vget img l ((placeOf 8 gw gi gb n_) + 9)))].toArray 76 (0, 0)), blk b7 (.cells [(.int .u64 0), (.int .u64 0), (.int .u64 0), (.int .u64 0), (.int .u64 0), (.int .u64 0), (.int .u64 0), (.int .u64 0), (.int .u64 0), (.int .u64 0)].toArray 76 (0, 0)), blk b4 (.cells [(.int .i64 gw), (.int .i64 gi), (.int .i64 gb)].toArray 61 (0, 0))] := hs85
    refine ops_done (by kernel_rfl) ?_
    refine normal_block ?_
    refine hK80 _ _ ?_
    clear hK80
    refine W.region ?_
    refine ops_run 3 (by kernel_rfl) ?_
    refine ops_done (by kernel_rfl) ?_
    refine loopAt_next ?_
    refine loopAt_round ?_
    refine W.seq fun K87 hK87 => ?_
    refine W.seq fun K88 hK88 => ?_
    refine W.region ?_
    refine ops_run 2 (by kernel_rfl) ?_
    refine ops_done (by kernel_rfl) ?_
    refine hK88 _ _ ?_
    clear hK88
    refine W.cond_false false (by kernel_rfl) rfl ?_
    refine W.exit (exit_seq (exit_seq (exit_here ?_)))
    refine hK49 _ _ ?_
    clear hK49
    refine W.seq fun K89 hK89 => ?_
    refine W.seq fun K90 hK90 => ?_
    refine W.region ?_
    refine ops_R (runs_loadAgg (ad := ⟨b4, 0, none⟩) (cs := [(.int .i64 gw), (.int .i64 gi), (.int .i64 gb)]) (by kernel_rfl) (cells_sub (hs86.heapAt 2 rfl) rfl)) ?_
    refine ops_R (runs_loadAgg (ad := ⟨b45, 0, none⟩) (cs := [(.int .u64 (vget img l (placeOf 8 gw gi gb n_))), (.int .u64 (vget img l ((placeOf 8 gw gi gb n_) + 1))), (.int .u64 (vget img l ((placeOf 8 gw gi gb n_) + 2))), (.int .u64 (vget img l ((placeOf 8 gw gi gb n_) + 3))), (.int .u64 (vget img l (((placeOf 8 gw gi gb n_) + 4) + 0))), (.int .u64 (vget img l (((placeOf 8 gw gi gb n_) + 4) + 1))), (.int .u64 (vget img l (((placeOf 8 gw gi gb n_) + 4) + 2))), (.int .u64 (vget img l (((placeOf 8 gw gi gb n_) + 4) + 3))), (.int .u64 (vget img l ((placeOf 8 gw gi gb n_) + 8))), (.int .u64 (vget img l ((placeOf 8 gw gi gb n_) + 9)))]) (by kernel_rfl) (cells_sub (hs86.heapAt 0 rfl) rfl)) ?_
    refine ops_call (pre := []) hs86 (by kernel_rfl) (rright_spec (gw := gw) (gi := gi) (gb := gb) (x_ := ⟨(vget img l (placeOf 8 gw gi gb n_)), (vget img l ((placeOf 8 gw gi gb n_) + 1)), (vget img l ((placeOf 8 gw gi gb n_) + 2)), (vget img l ((placeOf 8 gw gi gb n_) + 3)), (vget img l (((placeOf 8 gw gi gb n_) + 4) + 0)), (vget img l (((placeOf 8 gw gi gb n_) + 4) + 1)), (vget img l (((placeOf 8 gw gi gb n_) + 4) + 2)), (vget img l (((placeOf 8 gw gi gb n_) + 4) + 3)), (vget img l ((placeOf 8 gw gi gb n_) + 8)), (vget img l ((placeOf 8 gw gi gb n_) + 9))⟩) B _) ?_
    rintro _ _ w91 ⟨rfl, rfl⟩ hs92
    have hs93 : St B w [] w91 [blk b45 (.cells [(.int .u64 (vget img l (placeOf 8 gw gi gb n_))), (.int .u64 (vget img l ((placeOf 8 gw gi gb n_) + 1))), (.int .u64 (vget img l ((placeOf 8 gw gi gb n_) + 2))), (.int .u64 (vget img l ((placeOf 8 gw gi gb n_) + 3))), (.int .u64 (vget img l (((placeOf 8 gw gi gb n_) + 4) + 0))), (.int .u64 (vget img l (((placeOf 8 gw gi gb n_) + 4) + 1))), (.int .u64 (vget img l (((placeOf 8 gw gi gb n_) + 4) + 2))), (.int .u64 (vget img l (((placeOf 8 gw gi gb n_) + 4) + 3))), (.int .u64 (vget img l ((placeOf 8 gw gi gb n_) + 8))), (.int .u64 (vget img l ((placeOf 8 gw gi gb n_) + 9)))].toArray 76 (0, 0)), blk b7 (.cells [(.int .u64 0), (.int .u64 0), (.int .u64 0), (.int .u64 0), (.int .u64 0), (.int .u64 0), (.int .u64 0), (.int .u64 0), (.int .u64 0), (.int .u64 0)].toArray 76 (0, 0)), blk b4 (.cells [(.int .i64 gw), (.int .i64 gi), (.int .i64 gb)].toArray 61 (0, 0))] := hs92
    refine ops_run 1 (by kernel_rfl) ?_
    refine ops_done (by kernel_rfl) ?_
    refine hK90 _ _ ?_
    clear hK90
    refine W.cond (!(decide (RightP gw gi gb ⟨(vget img l (placeOf 8 gw gi gb n_)), (vget img l ((placeOf 8 gw gi gb n_) + 1)), (vget img l ((placeOf 8 gw gi gb n_) + 2)), (vget img l ((placeOf 8 gw gi gb n_) + 3)), (vget img l (((placeOf 8 gw gi gb n_) + 4) + 0)), (vget img l (((placeOf 8 gw gi gb n_) + 4) + 1)), (vget img l (((placeOf 8 gw gi gb n_) + 4) + 2)), (vget img l (((placeOf 8 gw gi gb n_) + 4) + 3)), (vget img l ((placeOf 8 gw gi gb n_) + 8)), (vget img l ((placeOf 8 gw gi gb n_) + 9))⟩))) (by kernel_rfl) (fun h94 => ?_) (fun h94 => ?_)
    ·
      have h94p : ¬ (RightP gw gi gb ⟨(vget img l (placeOf 8 gw gi gb n_)), (vget img l ((placeOf 8 gw gi gb n_) + 1)), (vget img l ((placeOf 8 gw gi gb n_) + 2)), (vget img l ((placeOf 8 gw gi gb n_) + 3)), (vget img l (((placeOf 8 gw gi gb n_) + 4) + 0)), (vget img l (((placeOf 8 gw gi gb n_) + 4) + 1)), (vget img l (((placeOf 8 gw gi gb n_) + 4) + 2)), (vget img l (((placeOf 8 gw gi gb n_) + 4) + 3)), (vget img l ((placeOf 8 gw gi gb n_) + 8)), (vget img l ((placeOf 8 gw gi gb n_) + 9))⟩) := of_decide_eq_false (bnot_true h94)
      refine W.seq fun K95 hK95 => ?_
      refine W.region ?_
      refine ops_run 1 (by kernel_rfl) ?_
      have hs98 : St B w [] w91 [blk b7 (.cells [(.int .u64 0), (.int .u64 0), (.int .u64 0), (.int .u64 0), (.int .u64 0), (.int .u64 0), (.int .u64 0), (.int .u64 0), (.int .u64 0), (.int .u64 0)].toArray 76 (0, 0)), blk b45 (.cells [(.int .u64 (vget img l (placeOf 8 gw gi gb n_))), (.int .u64 (vget img l ((placeOf 8 gw gi gb n_) + 1))), (.int .u64 (vget img l ((placeOf 8 gw gi gb n_) + 2))), (.int .u64 (vget img l ((placeOf 8 gw gi gb n_) + 3))), (.int .u64 (vget img l (((placeOf 8 gw gi gb n_) + 4) + 0))), (.int .u64 (vget img l (((placeOf 8 gw gi gb n_) + 4) + 1))), (.int .u64 (vget img l (((placeOf 8 gw gi gb n_) + 4) + 2))), (.int .u64 (vget img l (((placeOf 8 gw gi gb n_) + 4) + 3))), (.int .u64 (vget img l ((placeOf 8 gw gi gb n_) + 8))), (.int .u64 (vget img l ((placeOf 8 gw gi gb n_) + 9)))].toArray 76 (0, 0)), blk b4 (.cells [(.int .i64 gw), (.int .i64 gi), (.int .i64 gb)].toArray 61 (0, 0))] := hs93.front 1 (by simp)
      refine ops_store (off := 0) (cs := [(.int .u64 0), (.int .u64 0), (.int .u64 0), (.int .u64 0), (.int .u64 0), (.int .u64 0), (.int .u64 0), (.int .u64 0), (.int .u64 0), (.int .u64 0)]) (vs := [(.int .u64 0), (.int .u64 0), (.int .u64 0), (.int .u64 0), (.int .u64 0), (.int .u64 0), (.int .u64 0), (.int .u64 0), (.int .u64 0), (.int .u64 0)]) hs98 (by kernel_rfl) (by simp) rfl (fun w96 hs97 => ?_)
      have hs99 : St B w [] w96 [blk b7 (.cells [(.int .u64 0), (.int .u64 0), (.int .u64 0), (.int .u64 0), (.int .u64 0), (.int .u64 0), (.int .u64 0), (.int .u64 0), (.int .u64 0), (.int .u64 0)].toArray 76 (0, 0)), blk b45 (.cells [(.int .u64 (vget img l (placeOf 8 gw gi gb n_))), (.int .u64 (vget img l ((placeOf 8 gw gi gb n_) + 1))), (.int .u64 (vget img l ((placeOf 8 gw gi gb n_) + 2))), (.int .u64 (vget img l ((placeOf 8 gw gi gb n_) + 3))), (.int .u64 (vget img l (((placeOf 8 gw gi gb n_) + 4) + 0))), (.int .u64 (vget img l (((placeOf 8 gw gi gb n_) + 4) + 1))), (.int .u64 (vget img l (((placeOf 8 gw gi gb n_) + 4) + 2))), (.int .u64 (vget img l (((placeOf 8 gw gi gb n_) + 4) + 3))), (.int .u64 (vget img l ((placeOf 8 gw gi gb n_) + 8))), (.int .u64 (vget img l ((placeOf 8 gw gi gb n_) + 9)))].toArray 76 (0, 0)), blk b4 (.cells [(.int .i64 gw), (.int .i64 gi), (.int .i64 gb)].toArray 61 (0, 0))] := hs97
      refine ops_run 1 (by kernel_rfl) ?_
      refine ops_done (by kernel_rfl) ?_
      refine hK95 _ _ ?_
      clear hK95
      refine W.ret (ret_seq ?_)
      have en_ : (⟨(vget img l (placeOf 8 gw gi gb n_)), (vget img l ((placeOf 8 gw gi gb n_) + 1)), (vget img l ((placeOf 8 gw gi gb n_) + 2)), (vget img l ((placeOf 8 gw gi gb n_) + 3)), (vget img l (((placeOf 8 gw gi gb n_) + 4) + 0)), (vget img l (((placeOf 8 gw gi gb n_) + 4) + 1)), (vget img l (((placeOf 8 gw gi gb n_) + 4) + 2)), (vget img l (((placeOf 8 gw gi gb n_) + 4) + 3)), (vget img l ((placeOf 8 gw gi gb n_) + 8)), (vget img l ((placeOf 8 gw gi gb n_) + 9))⟩ : Nd) = ndAt img l (ifind (img.length : Int) gw gi gb n_).1 := by first | (exfalso; omega) | (rw [hrg.2.2 (by assumption)]; simp only [ndAt, Int.add_zero, Int.add_assoc, Int.reduceAdd])
      have e_ : igetM img l gw gi gb n_ = (Nd.zero, 4) := by first | (exfalso; omega) | (simp only [igetM]; rw [if_pos (by assumption), ← en_]; exact if_neg (by assumption))
      have hs100 : St B w [] w96 [] := St.take (H := []) hs99
      refine ret_of (.tuple #[(.agg #[(.int .u64 0), (.int .u64 0), (.int .u64 0), (.int .u64 0), (.int .u64 0), (.int .u64 0), (.int .u64 0), (.int .u64 0), (.int .u64 0), (.int .u64 0)]), (.int .i64 4)]) (results_cell2 (ad := ⟨b7, 0, none⟩) (cs := [(.int .u64 0), (.int .u64 0), (.int .u64 0), (.int .u64 0), (.int .u64 0), (.int .u64 0), (.int .u64 0), (.int .u64 0), (.int .u64 0), (.int .u64 0)]) rfl (by kernel_rfl) (by kernel_rfl) (by kernel_rfl) (cells_sub (hs99.heapAt 0 rfl) rfl)) ⟨_, ⟨by rw [e_]; try rfl, rfl⟩, hs100⟩
    ·
      have h94p : RightP gw gi gb ⟨(vget img l (placeOf 8 gw gi gb n_)), (vget img l ((placeOf 8 gw gi gb n_) + 1)), (vget img l ((placeOf 8 gw gi gb n_) + 2)), (vget img l ((placeOf 8 gw gi gb n_) + 3)), (vget img l (((placeOf 8 gw gi gb n_) + 4) + 0)), (vget img l (((placeOf 8 gw gi gb n_) + 4) + 1)), (vget img l (((placeOf 8 gw gi gb n_) + 4) + 2)), (vget img l (((placeOf 8 gw gi gb n_) + 4) + 3)), (vget img l ((placeOf 8 gw gi gb n_) + 8)), (vget img l ((placeOf 8 gw gi gb n_) + 9))⟩ := of_decide_eq_true (bnot_false h94)
      refine W.skip ?_
      refine hK89 _ _ ?_
      clear hK89
      refine W.seq fun K101 hK101 => ?_
      refine W.region ?_
      refine ops_R (runs_loadAgg (ad := ⟨b45, 0, none⟩) (cs := [(.int .u64 (vget img l (placeOf 8 gw gi gb n_))), (.int .u64 (vget img l ((placeOf 8 gw gi gb n_) + 1))), (.int .u64 (vget img l ((placeOf 8 gw gi gb n_) + 2))), (.int .u64 (vget img l ((placeOf 8 gw gi gb n_) + 3))), (.int .u64 (vget img l (((placeOf 8 gw gi gb n_) + 4) + 0))), (.int .u64 (vget img l (((placeOf 8 gw gi gb n_) + 4) + 1))), (.int .u64 (vget img l (((placeOf 8 gw gi gb n_) + 4) + 2))), (.int .u64 (vget img l (((placeOf 8 gw gi gb n_) + 4) + 3))), (.int .u64 (vget img l ((placeOf 8 gw gi gb n_) + 8))), (.int .u64 (vget img l ((placeOf 8 gw gi gb n_) + 9)))]) (by kernel_rfl) (cells_sub (hs93.heapAt 0 rfl) rfl)) ?_
      have hs104 : St B w [] w91 [blk b7 (.cells [(.int .u64 0), (.int .u64 0), (.int .u64 0), (.int .u64 0), (.int .u64 0), (.int .u64 0), (.int .u64 0), (.int .u64 0), (.int .u64 0), (.int .u64 0)].toArray 76 (0, 0)), blk b45 (.cells [(.int .u64 (vget img l (placeOf 8 gw gi gb n_))), (.int .u64 (vget img l ((placeOf 8 gw gi gb n_) + 1))), (.int .u64 (vget img l ((placeOf 8 gw gi gb n_) + 2))), (.int .u64 (vget img l ((placeOf 8 gw gi gb n_) + 3))), (.int .u64 (vget img l (((placeOf 8 gw gi gb n_) + 4) + 0))), (.int .u64 (vget img l (((placeOf 8 gw gi gb n_) + 4) + 1))), (.int .u64 (vget img l (((placeOf 8 gw gi gb n_) + 4) + 2))), (.int .u64 (vget img l (((placeOf 8 gw gi gb n_) + 4) + 3))), (.int .u64 (vget img l ((placeOf 8 gw gi gb n_) + 8))), (.int .u64 (vget img l ((placeOf 8 gw gi gb n_) + 9)))].toArray 76 (0, 0)), blk b4 (.cells [(.int .i64 gw), (.int .i64 gi), (.int .i64 gb)].toArray 61 (0, 0))] := hs93.front 1 (by simp)
      refine ops_store (off := 0) (cs := [(.int .u64 0), (.int .u64 0), (.int .u64 0), (.int .u64 0), (.int .u64 0), (.int .u64 0), (.int .u64 0), (.int .u64 0), (.int .u64 0), (.int .u64 0)]) (vs := [(.int .u64 (vget img l (placeOf 8 gw gi gb n_))), (.int .u64 (vget img l ((placeOf 8 gw gi gb n_) + 1))), (.int .u64 (vget img l ((placeOf 8 gw gi gb n_) + 2))), (.int .u64 (vget img l ((placeOf 8 gw gi gb n_) + 3))), (.int .u64 (vget img l (((placeOf 8 gw gi gb n_) + 4) + 0))), (.int .u64 (vget img l (((placeOf 8 gw gi gb n_) + 4) + 1))), (.int .u64 (vget img l (((placeOf 8 gw gi gb n_) + 4) + 2))), (.int .u64 (vget img l (((placeOf 8 gw gi gb n_) + 4) + 3))), (.int .u64 (vget img l ((placeOf 8 gw gi gb n_) + 8))), (.int .u64 (vget img l ((placeOf 8 gw gi gb n_) + 9)))]) hs104 (by kernel_rfl) (by simp) rfl (fun w102 hs103 => ?_)
      have hs105 : St B w [] w102 [blk b7 (.cells [(.int .u64 (vget img l (placeOf 8 gw gi gb n_))), (.int .u64 (vget img l ((placeOf 8 gw gi gb n_) + 1))), (.int .u64 (vget img l ((placeOf 8 gw gi gb n_) + 2))), (.int .u64 (vget img l ((placeOf 8 gw gi gb n_) + 3))), (.int .u64 (vget img l (((placeOf 8 gw gi gb n_) + 4) + 0))), (.int .u64 (vget img l (((placeOf 8 gw gi gb n_) + 4) + 1))), (.int .u64 (vget img l (((placeOf 8 gw gi gb n_) + 4) + 2))), (.int .u64 (vget img l (((placeOf 8 gw gi gb n_) + 4) + 3))), (.int .u64 (vget img l ((placeOf 8 gw gi gb n_) + 8))), (.int .u64 (vget img l ((placeOf 8 gw gi gb n_) + 9)))].toArray 76 (0, 0)), blk b45 (.cells [(.int .u64 (vget img l (placeOf 8 gw gi gb n_))), (.int .u64 (vget img l ((placeOf 8 gw gi gb n_) + 1))), (.int .u64 (vget img l ((placeOf 8 gw gi gb n_) + 2))), (.int .u64 (vget img l ((placeOf 8 gw gi gb n_) + 3))), (.int .u64 (vget img l (((placeOf 8 gw gi gb n_) + 4) + 0))), (.int .u64 (vget img l (((placeOf 8 gw gi gb n_) + 4) + 1))), (.int .u64 (vget img l (((placeOf 8 gw gi gb n_) + 4) + 2))), (.int .u64 (vget img l (((placeOf 8 gw gi gb n_) + 4) + 3))), (.int .u64 (vget img l ((placeOf 8 gw gi gb n_) + 8))), (.int .u64 (vget img l ((placeOf 8 gw gi gb n_) + 9)))].toArray 76 (0, 0)), blk b4 (.cells [(.int .i64 gw), (.int .i64 gi), (.int .i64 gb)].toArray 61 (0, 0))] := hs103
      refine ops_run 1 (by kernel_rfl) ?_
      refine ops_done (by kernel_rfl) ?_
      refine hK101 _ _ ?_
      clear hK101
      refine W.ret ?_
      have en_ : (⟨(vget img l (placeOf 8 gw gi gb n_)), (vget img l ((placeOf 8 gw gi gb n_) + 1)), (vget img l ((placeOf 8 gw gi gb n_) + 2)), (vget img l ((placeOf 8 gw gi gb n_) + 3)), (vget img l (((placeOf 8 gw gi gb n_) + 4) + 0)), (vget img l (((placeOf 8 gw gi gb n_) + 4) + 1)), (vget img l (((placeOf 8 gw gi gb n_) + 4) + 2)), (vget img l (((placeOf 8 gw gi gb n_) + 4) + 3)), (vget img l ((placeOf 8 gw gi gb n_) + 8)), (vget img l ((placeOf 8 gw gi gb n_) + 9))⟩ : Nd) = ndAt img l (ifind (img.length : Int) gw gi gb n_).1 := by first | (exfalso; omega) | (rw [hrg.2.2 (by assumption)]; simp only [ndAt, Int.add_zero, Int.add_assoc, Int.reduceAdd])
      have e_ : igetM img l gw gi gb n_ = (⟨(vget img l (placeOf 8 gw gi gb n_)), (vget img l ((placeOf 8 gw gi gb n_) + 1)), (vget img l ((placeOf 8 gw gi gb n_) + 2)), (vget img l ((placeOf 8 gw gi gb n_) + 3)), (vget img l (((placeOf 8 gw gi gb n_) + 4) + 0)), (vget img l (((placeOf 8 gw gi gb n_) + 4) + 1)), (vget img l (((placeOf 8 gw gi gb n_) + 4) + 2)), (vget img l (((placeOf 8 gw gi gb n_) + 4) + 3)), (vget img l ((placeOf 8 gw gi gb n_) + 8)), (vget img l ((placeOf 8 gw gi gb n_) + 9))⟩, 0) := by first | (exfalso; omega) | (simp only [igetM]; rw [if_pos (by assumption), ← en_]; exact if_pos (by assumption))
      have hs106 : St B w [] w102 [] := St.take (H := []) hs105
      refine ret_of (.tuple #[(.agg #[(.int .u64 (vget img l (placeOf 8 gw gi gb n_))), (.int .u64 (vget img l ((placeOf 8 gw gi gb n_) + 1))), (.int .u64 (vget img l ((placeOf 8 gw gi gb n_) + 2))), (.int .u64 (vget img l ((placeOf 8 gw gi gb n_) + 3))), (.int .u64 (vget img l (((placeOf 8 gw gi gb n_) + 4) + 0))), (.int .u64 (vget img l (((placeOf 8 gw gi gb n_) + 4) + 1))), (.int .u64 (vget img l (((placeOf 8 gw gi gb n_) + 4) + 2))), (.int .u64 (vget img l (((placeOf 8 gw gi gb n_) + 4) + 3))), (.int .u64 (vget img l ((placeOf 8 gw gi gb n_) + 8))), (.int .u64 (vget img l ((placeOf 8 gw gi gb n_) + 9)))]), (.int .i64 0)]) (results_cell2 (ad := ⟨b7, 0, none⟩) (cs := [(.int .u64 (vget img l (placeOf 8 gw gi gb n_))), (.int .u64 (vget img l ((placeOf 8 gw gi gb n_) + 1))), (.int .u64 (vget img l ((placeOf 8 gw gi gb n_) + 2))), (.int .u64 (vget img l ((placeOf 8 gw gi gb n_) + 3))), (.int .u64 (vget img l (((placeOf 8 gw gi gb n_) + 4) + 0))), (.int .u64 (vget img l (((placeOf 8 gw gi gb n_) + 4) + 1))), (.int .u64 (vget img l (((placeOf 8 gw gi gb n_) + 4) + 2))), (.int .u64 (vget img l (((placeOf 8 gw gi gb n_) + 4) + 3))), (.int .u64 (vget img l ((placeOf 8 gw gi gb n_) + 8))), (.int .u64 (vget img l ((placeOf 8 gw gi gb n_) + 9)))]) rfl (by kernel_rfl) (by kernel_rfl) (by kernel_rfl) (cells_sub (hs105.heapAt 0 rfl) rfl)) ⟨_, ⟨by rw [e_]; try rfl, rfl⟩, hs106⟩

end Go.Proofs.Ythimamnblklkbaa
