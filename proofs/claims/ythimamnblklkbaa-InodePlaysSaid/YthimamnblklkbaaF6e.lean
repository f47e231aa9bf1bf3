/- Contracts of layers 6 and 7, by a program. -/
import Derived.Test.YthimamnblklkbaaF6d
namespace Go.Proofs.Ythimamnblklkbaa
open Go Go.RowKit
set_option linter.unusedSimpArgs false
set_option linter.unusedVariables false

set_option maxRecDepth 20000 in
set_option maxHeartbeats 2000000 in
theorem rright_spec {gw gi gb : Int} {x_ : Nd} (B : Nat) (w : World) : Spec Try.prog 39 #[(.agg #[(.int .i64 gw), (.int .i64 gi), (.int .i64 gb)]), (.agg #[(.int .u64 x_.k), (.int .u64 x_.l), (.int .u64 x_.o), (.int .u64 x_.s), (.int .u64 x_.a), (.int .u64 x_.b), (.int .u64 x_.c), (.int .u64 x_.d), (.int .u64 x_.e), (.int .u64 x_.m)])] B w [] (fun v H' => v = .bool (decide (RightP gw gi gb x_)) ∧ H' = []) := by
  refine spec_Q Try.func39 rfl fun hs => ?_
  refine W.seq fun K1 hK1 => ?_
  refine W.region ?_
  refine ops_new (fun b => .pointer (some ⟨b, 0, none⟩)) (.cells [(.int .i64 gw), (.int .i64 gi), (.int .i64 gb)].toArray 61 (0, 0)) hs (by kernel_rfl) (fun b4 w2 hs3 => ?_)
  refine ops_new (fun b => .pointer (some ⟨b, 0, none⟩)) (.cells [(.int .u64 x_.k), (.int .u64 x_.l), (.int .u64 x_.o), (.int .u64 x_.s), (.int .u64 x_.a), (.int .u64 x_.b), (.int .u64 x_.c), (.int .u64 x_.d), (.int .u64 x_.e), (.int .u64 x_.m)].toArray 76 (0, 0)) hs3 (by kernel_rfl) (fun b7 w5 hs6 => ?_)
  refine ops_run 1 (by kernel_rfl) ?_
  refine ops_done (by kernel_rfl) ?_
  refine hK1 _ _ ?_
  clear hK1
  refine W.seq fun K8 hK8 => ?_
  refine W.seq fun K9 hK9 => ?_
  refine W.region ?_
  refine ops_R (runs_loadAgg (ad := ⟨b4, 0, none⟩) (cs := [(.int .i64 gw), (.int .i64 gi), (.int .i64 gb)]) (by kernel_rfl) (cells_sub (hs6.heapAt 1 rfl) rfl)) ?_
  refine ops_call (pre := []) hs6 (by kernel_rfl) (rmay_spec (gw := gw) (gi := gi) (gb := gb) B _) ?_
  rintro _ _ w10 ⟨rfl, rfl⟩ hs11
  have hs12 : St B w [] w10 [blk b7 (.cells [(.int .u64 x_.k), (.int .u64 x_.l), (.int .u64 x_.o), (.int .u64 x_.s), (.int .u64 x_.a), (.int .u64 x_.b), (.int .u64 x_.c), (.int .u64 x_.d), (.int .u64 x_.e), (.int .u64 x_.m)].toArray 76 (0, 0)), blk b4 (.cells [(.int .i64 gw), (.int .i64 gi), (.int .i64 gb)].toArray 61 (0, 0))] := hs11
  refine ops_run 2 (by kernel_rfl) ?_
  rcases Bool.eq_false_or_eq_true (!(decide (May gw gi gb))) with h13 | h13
  ·
    have h13p : ¬ (May gw gi gb) := of_decide_eq_false (bnot_true h13)
    refine ops_set 9 (v := .bool true) (eq_bool_of (by kernel_rfl) h13) ?_
    refine ops_set 8 (v := .bool true) (eq_bool_of (by kernel_rfl) h13) ?_
    refine ops_run 9 (by kernel_rfl) ?_
    refine ops_done (by kernel_rfl) ?_
    refine hK9 _ _ ?_
    clear hK9
    refine W.cond_true true (by kernel_rfl) rfl ?_
    refine W.seq fun K14 hK14 => ?_
    refine W.region ?_
    refine ops_run 1 (by kernel_rfl) ?_
    refine ops_done (by kernel_rfl) ?_
    refine hK14 _ _ ?_
    clear hK14
    refine W.ret (ret_seq ?_)
    have hs15 : St B w [] w10 [] := St.take (H := []) hs12
    refine ret_of (.bool false) (by kernel_rfl) ⟨_, ⟨congrArg Value.bool (decide_eq_false (by first | (intro q; exact absurd q.1 (by assumption)) | (simp only [RightP, hm, true_and]; omega))).symm, rfl⟩, hs15⟩
  ·
    have h13p : May gw gi gb := of_decide_eq_true (bnot_false h13)
    have hm : May gw gi gb := h13p
    have hm_ : (1 ≤ gw ∧ gw ≤ 4) ∧ (2 ≤ gi ∧ gi ≤ 64) ∧ (2 ≤ gb ∧ gb ≤ 512) := hm
    refine ops_set 9 (v := .bool false) (eq_bool_of (by kernel_rfl) h13) ?_
    refine ops_set 8 (v := .bool false) (eq_bool_of (by kernel_rfl) h13) ?_
    refine ops_run 1 (by kernel_rfl) ?_
    refine ops_R (runs_load (ad := ⟨b7, 0, none⟩) (v := (.int .u64 x_.k)) (by kernel_rfl) (hs12.cellAt 0 rfl rfl)) ?_
    refine ops_run 2 (by kernel_rfl) ?_
    rcases Bool.eq_false_or_eq_true (!decide (x_.k = 1)) with h16 | h16
    ·
      have h16p : ¬ (x_.k = 1) := of_decide_eq_false (bnot_true h16)
      refine ops_set 13 (v := .bool true) (eq_bool_of (by kernel_rfl) h16) ?_
      refine ops_set 12 (v := .bool true) (eq_bool_of (by kernel_rfl) h16) ?_
      refine ops_run 1 (by kernel_rfl) ?_
      refine ops_R (runs_load (ad := ⟨b7, 0, none⟩) (v := (.int .u64 x_.k)) (by kernel_rfl) (hs12.cellAt 0 rfl rfl)) ?_
      refine ops_run 3 (by kernel_rfl) ?_
      refine ops_done (by kernel_rfl) ?_
      refine hK9 _ _ ?_
      clear hK9
      refine W.cond (!decide (x_.k = 2)) (by kernel_rfl) (fun h17 => ?_) (fun h17 => ?_)
      ·
        have h17p : ¬ (x_.k = 2) := of_decide_eq_false (bnot_true h17)
        refine W.seq fun K18 hK18 => ?_
        refine W.region ?_
        refine ops_run 1 (by kernel_rfl) ?_
        refine ops_done (by kernel_rfl) ?_
        refine hK18 _ _ ?_
        clear hK18
        refine W.ret (ret_seq ?_)
        have hs19 : St B w [] w10 [] := St.take (H := []) hs12
        refine ret_of (.bool false) (by kernel_rfl) ⟨_, ⟨congrArg Value.bool (decide_eq_false (by first | (intro q; exact absurd q.1 (by assumption)) | (simp only [RightP, hm, true_and]; omega))).symm, rfl⟩, hs19⟩
      ·
        have h17p : x_.k = 2 := of_decide_eq_true (bnot_false h17)
        refine W.skip ?_
        refine hK8 _ _ ?_
        clear hK8
        refine W.seq fun K20 hK20 => ?_
        refine W.seq fun K21 hK21 => ?_
        refine W.region ?_
        refine ops_run 1 (by kernel_rfl) ?_
        refine ops_R (runs_load (ad := ⟨b7, 1, none⟩) (v := (.int .u64 x_.l)) (by kernel_rfl) (hs12.cellAt 0 rfl rfl)) ?_
        refine ops_run 2 (by kernel_rfl) ?_
        rcases Bool.eq_false_or_eq_true (decide (x_.l > 65536)) with h22 | h22
        ·
          have h22p : x_.l > 65536 := of_decide_eq_true h22
          refine ops_set 22 (v := .bool true) (eq_bool_of (by kernel_rfl) h22) ?_
          refine ops_set 21 (v := .bool true) (eq_bool_of (by kernel_rfl) h22) ?_
          refine ops_run 25 (by kernel_rfl) ?_
          refine ops_done (by kernel_rfl) ?_
          refine hK21 _ _ ?_
          clear hK21
          refine W.cond_true true (by kernel_rfl) rfl ?_
          refine W.seq fun K23 hK23 => ?_
          refine W.region ?_
          refine ops_run 1 (by kernel_rfl) ?_
          refine ops_done (by kernel_rfl) ?_
          refine hK23 _ _ ?_
          clear hK23
          refine W.ret (ret_seq ?_)
          have hs24 : St B w [] w10 [] := St.take (H := []) hs12
          refine ret_of (.bool false) (by kernel_rfl) ⟨_, ⟨congrArg Value.bool (decide_eq_false (by first | (intro q; exact absurd q.1 (by assumption)) | (simp only [RightP, hm, true_and]; omega))).symm, rfl⟩, hs24⟩
        ·
          have h22p : ¬ (x_.l > 65536) := of_decide_eq_false h22
          refine ops_set 22 (v := .bool false) (eq_bool_of (by kernel_rfl) h22) ?_
          refine ops_set 21 (v := .bool false) (eq_bool_of (by kernel_rfl) h22) ?_
          refine ops_run 1 (by kernel_rfl) ?_
          refine ops_R (runs_load (ad := ⟨b7, 2, none⟩) (v := (.int .u64 x_.o)) (by kernel_rfl) (hs12.cellAt 0 rfl rfl)) ?_
          refine ops_run 3 (by kernel_rfl) ?_
          rcases Bool.eq_false_or_eq_true (decide (x_.o > 16)) with h25 | h25
          ·
            have h25p : x_.o > 16 := of_decide_eq_true h25
            refine ops_set 27 (v := .bool true) (eq_bool_of (by kernel_rfl) h25) ?_
            refine ops_set 25 (v := .bool true) (eq_bool_of (by kernel_rfl) h25) ?_
            refine ops_set 26 (v := .bool true) (eq_bool_of (by kernel_rfl) h25) ?_
            refine ops_run 20 (by kernel_rfl) ?_
            refine ops_done (by kernel_rfl) ?_
            refine hK21 _ _ ?_
            clear hK21
            refine W.cond_true true (by kernel_rfl) rfl ?_
            refine W.seq fun K26 hK26 => ?_
            refine W.region ?_
            refine ops_run 1 (by kernel_rfl) ?_
            refine ops_done (by kernel_rfl) ?_
            refine hK26 _ _ ?_
            clear hK26
            refine W.ret (ret_seq ?_)
            have hs27 : St B w [] w10 [] := St.take (H := []) hs12
            refine ret_of (.bool false) (by kernel_rfl) ⟨_, ⟨congrArg Value.bool (decide_eq_false (by first | (intro q; exact absurd q.1 (by assumption)) | (simp only [RightP, hm, true_and]; omega))).symm, rfl⟩, hs27⟩
          ·
            have h25p : ¬ (x_.o > 16) := of_decide_eq_false h25
            refine ops_set 27 (v := .bool false) (eq_bool_of (by kernel_rfl) h25) ?_
            refine ops_set 25 (v := .bool false) (eq_bool_of (by kernel_rfl) h25) ?_
            refine ops_set 26 (v := .bool false) (eq_bool_of (by kernel_rfl) h25) ?_
            refine ops_run 1 (by kernel_rfl) ?_
            refine ops_R (runs_load (ad := ⟨b7, 3, none⟩) (v := (.int .u64 x_.s)) (by kernel_rfl) (hs12.cellAt 0 rfl rfl)) ?_
            refine ops_run 3 (by kernel_rfl) ?_
            rcases Bool.eq_false_or_eq_true (decide (x_.s > 768)) with h28 | h28
            ·
              have h28p : x_.s > 768 := of_decide_eq_true h28
              refine ops_set 32 (v := .bool true) (eq_bool_of (by kernel_rfl) h28) ?_
              refine ops_set 30 (v := .bool true) (eq_bool_of (by kernel_rfl) h28) ?_
              refine ops_set 31 (v := .bool true) (eq_bool_of (by kernel_rfl) h28) ?_
              refine ops_run 15 (by kernel_rfl) ?_
              refine ops_done (by kernel_rfl) ?_
              refine hK21 _ _ ?_
              clear hK21
              refine W.cond_true true (by kernel_rfl) rfl ?_
              refine W.seq fun K29 hK29 => ?_
              refine W.region ?_
              refine ops_run 1 (by kernel_rfl) ?_
              refine ops_done (by kernel_rfl) ?_
              refine hK29 _ _ ?_
              clear hK29
              refine W.ret (ret_seq ?_)
              have hs30 : St B w [] w10 [] := St.take (H := []) hs12
              refine ret_of (.bool false) (by kernel_rfl) ⟨_, ⟨congrArg Value.bool (decide_eq_false (by first | (intro q; exact absurd q.1 (by assumption)) | (simp only [RightP, hm, true_and]; omega))).symm, rfl⟩, hs30⟩
            ·
              have h28p : ¬ (x_.s > 768) := of_decide_eq_false h28
              refine ops_set 32 (v := .bool false) (eq_bool_of (by kernel_rfl) h28) ?_
              refine ops_set 30 (v := .bool false) (eq_bool_of (by kernel_rfl) h28) ?_
              refine ops_set 31 (v := .bool false) (eq_bool_of (by kernel_rfl) h28) ?_
              refine ops_run 1 (by kernel_rfl) ?_
              refine ops_R (runs_load (ad := ⟨b7, 8, none⟩) (v := (.int .u64 x_.e)) (by kernel_rfl) (hs12.cellAt 0 rfl rfl)) ?_
              refine ops_run 1 (by kernel_rfl) ?_
              refine ops_R (runs_load (ad := ⟨b4, 2, none⟩) (v := (.int .i64 gb)) (by kernel_rfl) (hs12.cellAt 1 rfl rfl)) ?_
              refine ops_val (v := .int .u64 (IntKind.u64.wrap gb)) (v' := .int .u64 gb) (by kernel_rfl) (congrArg (Value.int .u64) (wrap_u64 (by omega) (by omega))) ?_
              refine ops_run 3 (by kernel_rfl) ?_
              rcases Bool.eq_false_or_eq_true (decide (x_.e ≥ gb)) with h31 | h31
              ·
                have h31p : x_.e ≥ gb := of_decide_eq_true h31
                refine ops_set 40 (v := .bool true) (eq_bool_of (by kernel_rfl) h31) ?_
                refine ops_set 38 (v := .bool true) (eq_bool_of (by kernel_rfl) h31) ?_
                refine ops_set 39 (v := .bool true) (eq_bool_of (by kernel_rfl) h31) ?_
                refine ops_run 7 (by kernel_rfl) ?_
                refine ops_done (by kernel_rfl) ?_
                refine hK21 _ _ ?_
                clear hK21
                refine W.cond_true true (by kernel_rfl) rfl ?_
                refine W.seq fun K32 hK32 => ?_
                refine W.region ?_
                refine ops_run 1 (by kernel_rfl) ?_
                refine ops_done (by kernel_rfl) ?_
                refine hK32 _ _ ?_
                clear hK32
                refine W.ret (ret_seq ?_)
                have hs33 : St B w [] w10 [] := St.take (H := []) hs12
                refine ret_of (.bool false) (by kernel_rfl) ⟨_, ⟨congrArg Value.bool (decide_eq_false (by first | (intro q; exact absurd q.1 (by assumption)) | (simp only [RightP, hm, true_and]; omega))).symm, rfl⟩, hs33⟩
              ·
                have h31p : ¬ (x_.e ≥ gb) := of_decide_eq_false h31
                refine ops_set 40 (v := .bool false) (eq_bool_of (by kernel_rfl) h31) ?_
                refine ops_set 38 (v := .bool false) (eq_bool_of (by kernel_rfl) h31) ?_
                refine ops_set 39 (v := .bool false) (eq_bool_of (by kernel_rfl) h31) ?_
                refine ops_run 1 (by kernel_rfl) ?_
                refine ops_R (runs_load (ad := ⟨b7, 9, none⟩) (v := (.int .u64 x_.m)) (by kernel_rfl) (hs12.cellAt 0 rfl rfl)) ?_
                refine ops_run 1 (by kernel_rfl) ?_
                refine ops_R (runs_load (ad := ⟨b4, 1, none⟩) (v := (.int .i64 gi)) (by kernel_rfl) (hs12.cellAt 1 rfl rfl)) ?_
                refine ops_val (v := .int .u64 (IntKind.u64.wrap gi)) (v' := .int .u64 gi) (by kernel_rfl) (congrArg (Value.int .u64) (wrap_u64 (by omega) (by omega))) ?_
                refine ops_run 2 (by kernel_rfl) ?_
                refine ops_done (by kernel_rfl) ?_
                refine hK21 _ _ ?_
                clear hK21
                refine W.cond (decide (x_.m ≥ gi)) (by kernel_rfl) (fun h34 => ?_) (fun h34 => ?_)
                ·
                  have h34p : x_.m ≥ gi := of_decide_eq_true h34
                  refine W.seq fun K35 hK35 => ?_
                  refine W.region ?_
                  refine ops_run 1 (by kernel_rfl) ?_
                  refine ops_done (by kernel_rfl) ?_
                  refine hK35 _ _ ?_
                  clear hK35
                  refine W.ret (ret_seq ?_)
                  have hs36 : St B w [] w10 [] := St.take (H := []) hs12
                  refine ret_of (.bool false) (by kernel_rfl) ⟨_, ⟨congrArg Value.bool (decide_eq_false (by first | (intro q; exact absurd q.1 (by assumption)) | (simp only [RightP, hm, true_and]; omega))).symm, rfl⟩, hs36⟩
                ·
                  have h34p : ¬ (x_.m ≥ gi) := of_decide_eq_false h34
                  refine W.skip ?_
                  refine hK20 _ _ ?_
                  clear hK20
                  refine W.seq fun K37 hK37 => ?_
                  refine W.seq fun K38 hK38 => ?_
                  refine W.region ?_
                  refine ops_run 1 (by kernel_rfl) ?_
                  refine ops_done (by kernel_rfl) ?_
                  refine hK38 _ _ ?_
                  clear hK38
                  refine W.block ?_
                  refine W.loop_start ?_
                  refine loopAt_round ?_
                  refine W.seq fun K39 hK39 => ?_
                  refine W.seq fun K40 hK40 => ?_
                  refine W.region ?_
                  refine ops_run 2 (by kernel_rfl) ?_
                  refine ops_done (by kernel_rfl) ?_
                  refine hK40 _ _ ?_
                  clear hK40
                  refine W.cond_true true (by kernel_rfl) rfl ?_
                  refine W.skip ?_
                  refine hK39 _ _ ?_
                  clear hK39
                  refine W.seq fun K41 hK41 => ?_
                  refine W.block ?_
                  refine W.seq fun K42 hK42 => ?_
                  have hs43 := hs12.drew
                  refine W.regionD [(0, 0), (0, 0), (3, 3), (4, 4), (0, 0), (16, 16), (32, 32), (72, 72)] (fun w_ => St B w [] w_ [blk b7 (.cells [(.int .u64 x_.k), (.int .u64 x_.l), (.int .u64 x_.o), (.int .u64 x_.s), (.int .u64 x_.a), (.int .u64 x_.b), (.int .u64 x_.c), (.int .u64 x_.d), (.int .u64 x_.e), (.int .u64 x_.m)].toArray 76 (0, 0)), blk b4 (.cells [(.int .i64 gw), (.int .i64 gi), (.int .i64 gb)].toArray 61 (0, 0))]) (by kernel_rfl) hs43 ?_
                  refine any_val (v := (.int .i64 0)) (v' := (.int .i64 0)) 0 (by kernel_rfl) (fun _ => by kernel_rfl) rfl hs43 ?_
                  refine any_val (v := (.pointer (some ⟨b7, 4, none⟩))) (v' := (.pointer (some ⟨b7, 4, none⟩))) 1 (by kernel_rfl) (fun _ => by kernel_rfl) rfl hs43 ?_
                  refine any_val (v := (.pointer (some ⟨b7, 4, none⟩))) (v' := (.pointer (some ⟨b7, 4, none⟩))) 2 (by kernel_rfl) (fun _ => by kernel_rfl) rfl hs43 ?_
                  refine any_R 3 (by kernel_rfl) (fun _ hS_ => runs_load (ad := ⟨b7, 4, none⟩) (v := (.int .u64 x_.a)) (by kernel_rfl) (hS_.cellAt 0 rfl rfl)) hs43 ?_
                  refine any_val (v := (.pointer (some ⟨b4, 2, none⟩))) (v' := (.pointer (some ⟨b4, 2, none⟩))) 4 (by kernel_rfl) (fun _ => by kernel_rfl) rfl hs43 ?_
                  refine any_R 5 (by kernel_rfl) (fun _ hS_ => runs_load (ad := ⟨b4, 2, none⟩) (v := (.int .i64 gb)) (by kernel_rfl) (hS_.cellAt 1 rfl rfl)) hs43 ?_
                  refine any_val (v := .int .u64 (IntKind.u64.wrap gb)) (v' := .int .u64 gb) 6 (by kernel_rfl) (fun _ => by kernel_rfl) (congrArg (Value.int .u64) (wrap_u64 (by omega) (by omega))) hs43 ?_
                  refine any_val (v := (.bool (decide (x_.a ≥ gb)))) (v' := (.bool (decide (x_.a ≥ gb)))) 7 (by kernel_rfl) (fun _ => by kernel_rfl) rfl hs43 ?_
                  refine any_done (by kernel_rfl) ?_
                  refine hK42 _ _ ?_
                  clear hK42
                  refine W.cond (decide (x_.a ≥ gb)) (by kernel_rfl) (fun h44 => ?_) (fun h44 => ?_)
                  ·
                    have h44p : x_.a ≥ gb := of_decide_eq_true h44
                    refine W.seq fun K45 hK45 => ?_
                    refine W.region ?_
                    refine ops_run 1 (by kernel_rfl) ?_
                    refine ops_done (by kernel_rfl) ?_
                    refine hK45 _ _ ?_
                    clear hK45
                    refine W.ret (ret_block (ret_seq (ret_seq (ret_block (ret_seq ?_)))))
                    have hs46 : St B w [] w10.drew [] := St.take (H := []) hs43
                    refine ret_of (.bool false) (by kernel_rfl) ⟨_, ⟨congrArg Value.bool (decide_eq_false (by first | (intro q; exact absurd q.1 (by assumption)) | (simp only [RightP, hm, true_and]; omega))).symm, rfl⟩, hs46⟩
                  ·
                    have h44p : ¬ (x_.a ≥ gb) := of_decide_eq_false h44
                    refine W.skip ?_
                    refine normal_block ?_
                    refine hK41 _ _ ?_
                    clear hK41
                    refine W.region ?_
                    refine ops_run 3 (by kernel_rfl) ?_
                    refine ops_done (by kernel_rfl) ?_
                    refine loopAt_next ?_
                    refine loopAt_round ?_
                    refine W.seq fun K47 hK47 => ?_
                    refine W.seq fun K48 hK48 => ?_
                    refine W.region ?_
                    refine ops_run 2 (by kernel_rfl) ?_
                    refine ops_done (by kernel_rfl) ?_
                    refine hK48 _ _ ?_
                    clear hK48
                    refine W.cond_true true (by kernel_rfl) rfl ?_
                    refine W.skip ?_
                    refine hK47 _ _ ?_
                    clear hK47
                    refine W.seq fun K49 hK49 => ?_
                    refine W.block ?_
                    refine W.seq fun K50 hK50 => ?_
                    have hs51 := hs43.drew
                    refine W.regionD [(0, 0), (0, 0), (3, 3), (4, 4), (0, 0), (16, 16), (32, 32), (72, 72)] (fun w_ => St B w [] w_ [blk b7 (.cells [(.int .u64 x_.k), (.int .u64 x_.l), (.int .u64 x_.o), (.int .u64 x_.s), (.int .u64 x_.a), (.int .u64 x_.b), (.int .u64 x_.c), (.int .u64 x_.d), (.int .u64 x_.e), (.int .u64 x_.m)].toArray 76 (0, 0)), blk b4 (.cells [(.int .i64 gw), (.int .i64 gi), (.int .i64 gb)].toArray 61 (0, 0))]) (by kernel_rfl) hs51 ?_
                    refine any_val (v := (.int .i64 1)) (v' := (.int .i64 1)) 0 (by kernel_rfl) (fun _ => by kernel_rfl) rfl hs51 ?_
                    refine any_val (v := (.pointer (some ⟨b7, 4, none⟩))) (v' := (.pointer (some ⟨b7, 4, none⟩))) 1 (by kernel_rfl) (fun _ => by kernel_rfl) rfl hs51 ?_
                    refine any_val (v := (.pointer (some ⟨b7, 5, none⟩))) (v' := (.pointer (some ⟨b7, 5, none⟩))) 2 (by kernel_rfl) (fun _ => by kernel_rfl) rfl hs51 ?_
                    refine any_R 3 (by kernel_rfl) (fun _ hS_ => runs_load (ad := ⟨b7, 5, none⟩) (v := (.int .u64 x_.b)) (by kernel_rfl) (hS_.cellAt 0 rfl rfl)) hs51 ?_
                    refine any_val (v := (.pointer (some ⟨b4, 2, none⟩))) (v' := (.pointer (some ⟨b4, 2, none⟩))) 4 (by kernel_rfl) (fun _ => by kernel_rfl) rfl hs51 ?_
                    refine any_R 5 (by kernel_rfl) (fun _ hS_ => runs_load (ad := ⟨b4, 2, none⟩) (v := (.int .i64 gb)) (by kernel_rfl) (hS_.cellAt 1 rfl rfl)) hs51 ?_
                    refine any_val (v := .int .u64 (IntKind.u64.wrap gb)) (v' := .int .u64 gb) 6 (by kernel_rfl) (fun _ => by kernel_rfl) (congrArg (Value.int .u64) (wrap_u64 (by omega) (by omega))) hs51 ?_
                    refine any_val (v := (.bool (decide (x_.b ≥ gb)))) (v' := (.bool (decide (x_.b ≥ gb)))) 7 (by kernel_rfl) (fun _ => by kernel_rfl) rfl hs51 ?_
                    refine any_done (by kernel_rfl) ?_
                    refine hK50 _ _ ?_
                    clear hK50
                    refine W.cond (decide (x_.b ≥ gb)) (by kernel_rfl) (fun h52 => ?_) (fun h52 => ?_)
                    ·
                      have h52p : x_.b ≥ gb := of_decide_eq_true h52
                      refine W.seq fun K53 hK53 => ?_
                      refine W.region ?_
                      refine ops_run 1 (by kernel_rfl) ?_
                      refine ops_done (by kernel_rfl) ?_
                      refine hK53 _ _ ?_
                      clear hK53
                      refine W.ret (ret_block (ret_seq (ret_seq (ret_block (ret_seq ?_)))))
                      have hs54 : St B w [] w10.drew.drew [] := St.take (H := []) hs51
                      refine ret_of (.bool false) (by kernel_rfl) ⟨_, ⟨congrArg Value.bool (decide_eq_false (by first | (intro q; exact absurd q.1 (by assumption)) | (simp only [RightP, hm, true_and]; omega))).symm, rfl⟩, hs54⟩
                    ·
                      have h52p : ¬ (x_.b ≥ gb) := of_decide_eq_false h52
                      refine W.skip ?_
                      refine normal_block ?_
                      refine hK49 _ _ ?_
                      clear hK49
                      refine W.region ?_
                      refine ops_run 3 (by kernel_rfl) ?_
                      refine ops_done (by kernel_rfl) ?_
                      refine loopAt_next ?_
                      refine loopAt_round ?_
                      refine W.seq fun K55 hK55 => ?_
                      refine W.seq fun K56 hK56 => ?_
                      refine W.region ?_
                      refine ops_run 2 (by kernel_rfl) ?_
                      refine ops_done (by kernel_rfl) ?_
                      refine hK56 _ _ ?_
                      clear hK56
                      refine W.cond_true true (by kernel_rfl) rfl ?_
                      refine W.skip ?_
                      refine hK55 _ _ ?_
                      clear hK55
                      refine W.seq fun K57 hK57 => ?_
                      refine W.block ?_
                      refine W.seq fun K58 hK58 => ?_
                      have hs59 := hs51.drew
                      refine W.regionD [(0, 0), (0, 0), (3, 3), (4, 4), (0, 0), (16, 16), (32, 32), (72, 72)] (fun w_ => St B w [] w_ [blk b7 (.cells [(.int .u64 x_.k), (.int .u64 x_.l), (.int .u64 x_.o), (.int .u64 x_.s), (.int .u64 x_.a), (.int .u64 x_.b), (.int .u64 x_.c), (.int .u64 x_.d), (.int .u64 x_.e), (.int .u64 x_.m)].toArray 76 (0, 0)), blk b4 (.cells [(.int .i64 gw), (.int .i64 gi), (.int .i64 gb)].toArray 61 (0, 0))]) (by kernel_rfl) hs59 ?_
                      refine any_val (v := (.int .i64 2)) (v' := (.int .i64 2)) 0 (by kernel_rfl) (fun _ => by kernel_rfl) rfl hs59 ?_
                      refine any_val (v := (.pointer (some ⟨b7, 4, none⟩))) (v' := (.pointer (some ⟨b7, 4, none⟩))) 1 (by kernel_rfl) (fun _ => by kernel_rfl) rfl hs59 ?_
                      refine any_val (v := (.pointer (some ⟨b7, 6, none⟩))) (v' := (.pointer (some ⟨b7, 6, none⟩))) 2 (by kernel_rfl) (fun _ => by kernel_rfl) rfl hs59 ?_
                      refine any_R 3 (by kernel_rfl) (fun _ hS_ => runs_load (ad := ⟨b7, 6, none⟩) (v := (.int .u64 x_.c)) (by kernel_rfl) (hS_.cellAt 0 rfl rfl)) hs59 ?_
                      refine any_val (v := (.pointer (some ⟨b4, 2, none⟩))) (v' := (.pointer (some ⟨b4, 2, none⟩))) 4 (by kernel_rfl) (fun _ => by kernel_rfl) rfl hs59 ?_
                      refine any_R 5 (by kernel_rfl) (fun _ hS_ => runs_load (ad := ⟨b4, 2, none⟩) (v := (.int .i64 gb)) (by kernel_rfl) (hS_.cellAt 1 rfl rfl)) hs59 ?_
                      refine any_val (v := .int .u64 (IntKind.u64.wrap gb)) (v' := .int .u64 gb) 6 (by kernel_rfl) (fun _ => by kernel_rfl) (congrArg (Value.int .u64) (wrap_u64 (by omega) (by omega))) hs59 ?_
                      refine any_val (v := (.bool (decide (x_.c ≥ gb)))) (v' := (.bool (decide (x_.c ≥ gb)))) 7 (by kernel_rfl) (fun _ => by kernel_rfl) rfl hs59 ?_
                      refine any_done (by kernel_rfl) ?_
                      refine hK58 _ _ ?_
                      clear hK58
                      refine W.cond (decide (x_.c ≥ gb)) (by kernel_rfl) (fun h60 => ?_) (fun h60 => ?_)
                      ·
                        have h60p : x_.c ≥ gb := of_decide_eq_true h60
                        refine W.seq fun K61 hK61 => ?_
                        refine W.region ?_
                        refine ops_run 1 (by kernel_rfl) ?_
                        refine ops_done (by kernel_rfl) ?_
                        refine hK61 _ _ ?_
                        clear hK61
                        refine W.ret (ret_block (ret_seq (ret_seq (ret_block (ret_seq ?_)))))
                        have hs62 : St B w [] w10.drew.drew.drew [] := St.take (H := []) hs59
                        refine ret_of (.bool false) (by kernel_rfl) ⟨_, ⟨congrArg Value.bool (decide_eq_false (by first | (intro q; exact absurd q.1 (by assumption)) | (simp only [RightP, hm, true_and]; omega))).symm, rfl⟩, hs62⟩
                      ·
                        have h60p : ¬ (x_.c ≥ gb) := of_decide_eq_false h60
                        refine W.skip ?_
                        refine normal_block ?_
                        refine hK57 _ _ ?_
                        clear hK57
                        refine W.region ?_
                        refine ops_run 3 (by kernel_rfl) ?_
                        refine ops_done (by kernel_rfl) ?_
                        refine loopAt_next ?_
                        refine loopAt_round ?_
                        refine W.seq fun K63 hK63 => ?_
                        refine W.seq fun K64 hK64 => ?_
                        refine W.region ?_
                        refine ops_run 2 (by kernel_rfl) ?_
                        refine ops_done (by kernel_rfl) ?_
                        refine hK64 _ _ ?_
                        clear hK64
                        refine W.cond_true true (by kernel_rfl) rfl ?_
                        refine W.skip ?_
                        refine hK63 _ _ ?_
                        clear hK63
                        refine W.seq fun K65 hK65 => ?_
                        refine W.block ?_
                        refine W.seq fun K66 hK66 => ?_
                        have hs67 := hs59.drew
                        refine W.regionD [(0, 0), (0, 0), (3, 3), (4, 4), (0, 0), (16, 16), (32, 32), (72, 72)] (fun w_ => St B w [] w_ [blk b7 (.cells [(.int .u64 x_.k), (.int .u64 x_.l), (.int .u64 x_.o), (.int .u64 x_.s), (.int .u64 x_.a), (.int .u64 x_.b), (.int .u64 x_.c), (.int .u64 x_.d), (.int .u64 x_.e), (.int .u64 x_.m)].toArray 76 (0, 0)), blk b4 (.cells [(.int .i64 gw), (.int .i64 gi), (.int .i64 gb)].toArray 61 (0, 0))]) (by kernel_rfl) hs67 ?_
                        refine any_val (v := (.int .i64 3)) (v' := (.int .i64 3)) 0 (by kernel_rfl) (fun _ => by kernel_rfl) rfl hs67 ?_
                        refine any_val (v := (.pointer (some ⟨b7, 4, none⟩))) (v' := (.pointer (some ⟨b7, 4, none⟩))) 1 (by kernel_rfl) (fun _ => by kernel_rfl) rfl hs67 ?_
                        refine any_val (v := (.pointer (some ⟨b7, 7, none⟩))) (v' := (.pointer (some ⟨b7, 7, none⟩))) 2 (by kernel_rfl) (fun _ => by kernel_rfl) rfl hs67 ?_
                        refine any_R 3 (by kernel_rfl) (fun _ hS_ => runs_load (ad := ⟨b7, 7, none⟩) (v := (.int .u64 x_.d)) (by kernel_rfl) (hS_.cellAt 0 rfl rfl)) hs67 ?_
                        refine any_val (v := (.pointer (some ⟨b4, 2, none⟩))) (v' := (.pointer (some ⟨b4, 2, none⟩))) 4 (by kernel_rfl) (fun _ => by kernel_rfl) rfl hs67 ?_
                        refine any_R 5 (by kernel_rfl) (fun _ hS_ => runs_load (ad := ⟨b4, 2, none⟩) (v := (.int .i64 gb)) (by kernel_rfl) (hS_.cellAt 1 rfl rfl)) hs67 ?_
                        refine any_val (v := .int .u64 (IntKind.u64.wrap gb)) (v' := .int .u64 gb) 6 (by kernel_rfl) (fun _ => by kernel_rfl) (congrArg (Value.int .u64) (wrap_u64 (by omega) (by omega))) hs67 ?_
                        refine any_val (v := (.bool (decide (x_.d ≥ gb)))) (v' := (.bool (decide (x_.d ≥ gb)))) 7 (by kernel_rfl) (fun _ => by kernel_rfl) rfl hs67 ?_
                        refine any_done (by kernel_rfl) ?_
                        refine hK66 _ _ ?_
                        clear hK66
                        refine W.cond (decide (x_.d ≥ gb)) (by kernel_rfl) (fun h68 => ?_) (fun h68 => ?_)
                        ·
                          have h68p : x_.d ≥ gb := of_decide_eq_true h68
                          refine W.seq fun K69 hK69 => ?_
                          refine W.region ?_
                          refine ops_run 1 (by kernel_rfl) ?_
                          refine ops_done (by kernel_rfl) ?_
                          refine hK69 _ _ ?_
                          clear hK69
                          refine W.ret (ret_block (ret_seq (ret_seq (ret_block (ret_seq ?_)))))
                          have hs70 : St B w [] w10.drew.drew.drew.drew [] := St.take (H := []) hs67
                          refine ret_of (.bool false) (by kernel_rfl) ⟨_, ⟨congrArg Value.bool (decide_eq_false (by first | (intro q; exact absurd q.1 (by assumption)) | (simp only [RightP, hm, true_and]; omega))).symm, rfl⟩, hs70⟩
                        ·
                          have h68p : ¬ (x_.d ≥ gb) := of_decide_eq_false h68
                          refine W.skip ?_
                          refine normal_block ?_
                          refine hK65 _ _ ?_
                          clear hK65
                          refine W.region ?_
                          refine ops_run 3 (by kernel_rfl) ?_
                          refine ops_done (by kernel_rfl) ?_
                          refine loopAt_next ?_
                          refine loopAt_round ?_
                          refine W.seq fun K71 hK71 => ?_
                          refine W.seq fun K72 hK72 => ?_
                          refine W.region ?_
                          refine ops_run 2 (by kernel_rfl) ?_
                          refine ops_done (by kernel_rfl) ?_
                          refine hK72 _ _ ?_
                          clear hK72
                          refine W.cond_false false (by kernel_rfl) rfl ?_
                          refine W.exit (exit_seq (exit_seq (exit_here ?_)))
                          refine hK37 _ _ ?_
                          clear hK37
                          refine W.seq fun K73 hK73 => ?_
                          refine W.region ?_
                          refine ops_run 1 (by kernel_rfl) ?_
                          refine ops_R (runs_load (ad := ⟨b7, 0, none⟩) (v := (.int .u64 x_.k)) (by kernel_rfl) (hs67.cellAt 0 rfl rfl)) ?_
                          refine ops_run 2 (by kernel_rfl) ?_
                          rcases Bool.eq_false_or_eq_true (decide (x_.k = 1)) with h74 | h74
                          ·
                            have h74p : x_.k = 1 := of_decide_eq_true h74
                            refine ops_set 63 (v := .bool true) (eq_bool_of (by kernel_rfl) h74) ?_
                            refine ops_set 62 (v := .bool true) (eq_bool_of (by kernel_rfl) h74) ?_
                            refine ops_run 1 (by kernel_rfl) ?_
                            refine ops_R (runs_load (ad := ⟨b7, 9, none⟩) (v := (.int .u64 x_.m)) (by kernel_rfl) (hs67.cellAt 0 rfl rfl)) ?_
                            refine ops_run 3 (by kernel_rfl) ?_
                            rcases Bool.eq_false_or_eq_true (decide (x_.m = 0)) with h75 | h75
                            ·
                              have h75p : x_.m = 0 := of_decide_eq_true h75
                              refine ops_set 68 (v := .bool true) (eq_bool_of (by kernel_rfl) h75) ?_
                              refine ops_set 66 (v := .bool true) (eq_bool_of (by kernel_rfl) h75) ?_
                              refine ops_set 67 (v := .bool true) (eq_bool_of (by kernel_rfl) h75) ?_
                              refine ops_run 10 (by kernel_rfl) ?_
                              refine ops_done (by kernel_rfl) ?_
                              refine hK73 _ _ ?_
                              clear hK73
                              refine W.ret ?_
                              have hs76 : St B w [] w10.drew.drew.drew.drew [] := St.take (H := []) hs67
                              refine ret_of (.bool true) (by kernel_rfl) ⟨_, ⟨congrArg Value.bool (decide_eq_true (by first | (intro q; exact absurd q.1 (by assumption)) | (simp only [RightP, hm, true_and]; omega))).symm, rfl⟩, hs76⟩
                            ·
                              have h75p : ¬ (x_.m = 0) := of_decide_eq_false h75
                              refine ops_set 68 (v := .bool false) (eq_bool_of (by kernel_rfl) h75) ?_
                              refine ops_set 66 (v := .bool false) (eq_bool_of (by kernel_rfl) h75) ?_
                              refine ops_set 67 (v := .bool false) (eq_bool_of (by kernel_rfl) h75) ?_
                              refine ops_run 1 (by kernel_rfl) ?_
                              refine ops_R (runs_load (ad := ⟨b7, 0, none⟩) (v := (.int .u64 x_.k)) (by kernel_rfl) (hs67.cellAt 0 rfl rfl)) ?_
                              refine ops_run 2 (by kernel_rfl) ?_
                              rcases Bool.eq_false_or_eq_true (decide (x_.k = 2)) with h77 | h77
                              ·
                                have h77p : x_.k = 2 := of_decide_eq_true h77
                                refine ops_set 72 (v := .bool true) (eq_bool_of (by kernel_rfl) h77) ?_
                                refine ops_set 71 (v := .bool true) (eq_bool_of (by kernel_rfl) h77) ?_
                                refine ops_run 1 (by kernel_rfl) ?_
                                refine ops_R (runs_load (ad := ⟨b7, 3, none⟩) (v := (.int .u64 x_.s)) (by kernel_rfl) (hs67.cellAt 0 rfl rfl)) ?_
                                refine ops_run 4 (by kernel_rfl) ?_
                                refine ops_done (by kernel_rfl) ?_
                                refine hK73 _ _ ?_
                                clear hK73
                                refine W.ret ?_
                                have hs78 : St B w [] w10.drew.drew.drew.drew [] := St.take (H := []) hs67
                                refine ret_of (.bool (decide (x_.s = 0))) (by kernel_rfl) ⟨_, ⟨congrArg Value.bool (decide_eq_decide.2 (by simp only [RightP, hm, true_and]; omega)), rfl⟩, hs78⟩
                              ·
                                have h77p : ¬ (x_.k = 2) := of_decide_eq_false h77
                                refine ops_set 72 (v := .bool false) (eq_bool_of (by kernel_rfl) h77) ?_
                                refine ops_set 71 (v := .bool false) (eq_bool_of (by kernel_rfl) h77) ?_
                                refine ops_run 6 (by kernel_rfl) ?_
                                refine ops_done (by kernel_rfl) ?_
                                refine hK73 _ _ ?_
                                clear hK73
                                refine W.ret ?_
                                have hs79 : St B w [] w10.drew.drew.drew.drew [] := St.take (H := []) hs67
                                refine ret_of (.bool false) (by kernel_rfl) ⟨_, ⟨congrArg Value.bool (decide_eq_false (by first | (intro q; exact absurd q.1 (by assumption)) | (simp only [RightP, hm, true_and]; omega))).symm, rfl⟩, hs79⟩
                          ·
                            have h74p : ¬ (x_.k = 1) := of_decide_eq_false h74
                            refine ops_set 63 (v := .bool false) (eq_bool_of (by kernel_rfl) h74) ?_
                            refine ops_set 62 (v := .bool false) (eq_bool_of (by kernel_rfl) h74) ?_
                            refine ops_run 6 (by kernel_rfl) ?_
                            refine ops_R (runs_load (ad := ⟨b7, 0, none⟩) (v := (.int .u64 x_.k)) (by kernel_rfl) (hs67.cellAt 0 rfl rfl)) ?_
                            refine ops_run 2 (by kernel_rfl) ?_
                            rcases Bool.eq_false_or_eq_true (decide (x_.k = 2)) with h80 | h80
                            ·
                              have h80p : x_.k = 2 := of_decide_eq_true h80
                              refine ops_set 72 (v := .bool true) (eq_bool_of (by kernel_rfl) h80) ?_
                              refine ops_set 71 (v := .bool true) (eq_bool_of (by kernel_rfl) h80) ?_
                              refine ops_run 1 (by kernel_rfl) ?_
                              refine ops_R (runs_load (ad := ⟨b7, 3, none⟩) (v := (.int .u64 x_.s)) (by kernel_rfl) (hs67.cellAt 0 rfl rfl)) ?_
                              refine ops_run 4 (by kernel_rfl) ?_
                              refine ops_done (by kernel_rfl) ?_
                              refine hK73 _ _ ?_
                              clear hK73
                              refine W.ret ?_
                              have hs81 : St B w [] w10.drew.drew.drew.drew [] := St.take (H := []) hs67
                              refine ret_of (.bool (decide (x_.s = 0))) (by kernel_rfl) ⟨_, ⟨congrArg Value.bool (decide_eq_decide.2 (by simp only [RightP, hm, true_and]; omega)), rfl⟩, hs81⟩
                            ·
                              have h80p : ¬ (x_.k = 2) := of_decide_eq_false h80
                              refine ops_set 72 (v := .bool false) (eq_bool_of (by kernel_rfl) h80) ?_
                              refine ops_set 71 (v := .bool false) (eq_bool_of (by kernel_rfl) h80) ?_
                              refine ops_run 6 (by kernel_rfl) ?_
                              refine ops_done (by kernel_rfl) ?_
                              refine hK73 _ _ ?_
                              clear hK73
                              refine W.ret ?_
                              have hs82 : St B w [] w10.drew.drew.drew.drew [] := St.take (H := []) hs67
                              refine ret_of (.bool false) (by kernel_rfl) ⟨_, ⟨congrArg Value.bool (decide_eq_false (by first | (intro q; exact absurd q.1 (by assumption)) | (simp only [RightP, hm, true_and]; omega))).symm, rfl⟩, hs82⟩
    ·
      have h16p : x_.k = 1 := of_decide_eq_true (bnot_false h16)
      refine ops_set 13 (v := .bool false) (eq_bool_of (by kernel_rfl) h16) ?_
      refine ops_set 12 (v := .bool false) (eq_bool_of (by kernel_rfl) h16) ?_
      refine ops_run 5 (by kernel_rfl) ?_
      refine ops_done (by kernel_rfl) ?_
      refine hK9 _ _ ?_
      clear hK9
      refine W.cond_false false (by kernel_rfl) rfl ?_
      refine W.skip ?_
      refine hK8 _ _ ?_
      clear hK8
      refine W.seq fun K83 hK83 => ?_
      refine W.seq fun K84 hK84 => ?_
      refine W.region ?_
      refine ops_run 1 (by kernel_rfl) ?_
      refine ops_R (runs_load (ad := ⟨b7, 1, none⟩) (v := (.int .u64 x_.l)) (by kernel_rfl) (hs12.cellAt 0 rfl rfl)) ?_
      refine ops_run 2 (by kernel_rfl) ?_
      rcases Bool.eq_false_or_eq_true (decide (x_.l > 65536)) with h85 | h85
      ·
        have h85p : x_.l > 65536 := of_decide_eq_true h85
        refine ops_set 22 (v := .bool true) (eq_bool_of (by kernel_rfl) h85) ?_
        refine ops_set 21 (v := .bool true) (eq_bool_of (by kernel_rfl) h85) ?_
        refine ops_run 25 (by kernel_rfl) ?_
        refine ops_done (by kernel_rfl) ?_
        refine hK84 _ _ ?_
        clear hK84
        refine W.cond_true true (by kernel_rfl) rfl ?_
        refine W.seq fun K86 hK86 => ?_
        refine W.region ?_
        refine ops_run 1 (by kernel_rfl) ?_
        refine ops_done (by kernel_rfl) ?_
        refine hK86 _ _ ?_
        clear hK86
        refine W.ret (ret_seq ?_)
        have hs87 : St B w [] w10 [] := St.take (H := []) hs12
        refine ret_of (.bool false) (by kernel_rfl) ⟨_, ⟨congrArg Value.bool (decide_eq_false (by first | (intro q; exact absurd q.1 (by assumption)) | (simp only [RightP, hm, true_and]; omega))).symm, rfl⟩, hs87⟩
      ·
        have h85p : ¬ (x_.l > 65536) := of_decide_eq_false h85
        refine ops_set 22 (v := .bool false) (eq_bool_of (by kernel_rfl) h85) ?_
        refine ops_set 21 (v := .bool false) (eq_bool_of (by kernel_rfl) h85) ?_
        refine ops_run 1 (by kernel_rfl) ?_
        refine ops_R (runs_load (ad := ⟨b7, 2, none⟩) (v := (.int .u64 x_.o)) (by kernel_rfl) (hs12.cellAt 0 rfl rfl)) ?_
        refine ops_run 3 (by kernel_rfl) ?_
        rcases Bool.eq_false_or_eq_true (decide (x_.o > 16)) with h88 | h88
        ·
          have h88p : x_.o > 16 := of_decide_eq_true h88
          refine ops_set 27 (v := .bool true) (eq_bool_of (by kernel_rfl) h88) ?_
          refine ops_set 25 (v := .bool true) (eq_bool_of (by kernel_rfl) h88) ?_
          refine ops_set 26 (v := .bool true) (eq_bool_of (by kernel_rfl) h88) ?_
          refine ops_run 20 (by kernel_rfl) ?_
          refine ops_done (by kernel_rfl) ?_
          refine hK84 _ _ ?_
          clear hK84
          refine W.cond_true true (by kernel_rfl) rfl ?_
          refine W.seq fun K89 hK89 => ?_
          refine W.region ?_
          refine ops_run 1 (by kernel_rfl) ?_
          refine ops_done (by kernel_rfl) ?_
          refine hK89 _ _ ?_
          clear hK89
          refine W.ret (ret_seq ?_)
          have hs90 : St B w [] w10 [] := St.take (H := []) hs12
          refine ret_of (.bool false) (by kernel_rfl) ⟨_, ⟨congrArg Value.bool (decide_eq_false (by first | (intro q; exact absurd q.1 (by assumption)) | (simp only [RightP, hm, true_and]; omega))).symm, rfl⟩, hs90⟩
        ·
          have h88p : ¬ (x_.o > 16) := of_decide_eq_false h88
          refine ops_set 27 (v := .bool false) (eq_bool_of (by kernel_rfl) h88) ?_
          refine ops_set 25 (v := .bool false) (eq_bool_of (by kernel_rfl) h88) ?_
          refine ops_set 26 (v := .bool false) (eq_bool_of (by kernel_rfl) h88) ?_
          refine ops_run 1 (by kernel_rfl) ?_
          refine ops_R (runs_load (ad := ⟨b7, 3, none⟩) (v := (.int .u64 x_.s)) (by kernel_rfl) (hs12.cellAt 0 rfl rfl)) ?_
          refine ops_run 3 (by kernel_rfl) ?_
          rcases Bool.eq_false_or_eq_true (decide (x_.s > 768)) with h91 | h91
          ·
            have h91p : x_.s > 768 := of_decide_eq_true h91
            refine ops_set 32 (v := .bool true) (eq_bool_of (by kernel_rfl) h91) ?_
            refine ops_set 30 (v := .bool true) (eq_bool_of (by kernel_rfl) h91) ?_
            refine ops_set 31 (v := .bool true) (eq_bool_of (by kernel_rfl) h91) ?_
            refine ops_run 15 (by kernel_rfl) ?_
            refine ops_done (by kernel_rfl) ?_
            refine hK84 _ _ ?_
            clear hK84
            refine W.cond_true true (by kernel_rfl) rfl ?_
            refine W.seq fun K92 hK92 => ?_
            refine W.region ?_
            refine ops_run 1 (by kernel_rfl) ?_
            refine ops_done (by kernel_rfl) ?_
            refine hK92 _ _ ?_
            clear hK92
            refine W.ret (ret_seq ?_)
            have hs93 : St B w [] w10 [] := St.take (H := []) hs12
            refine ret_of (.bool false) (by kernel_rfl) ⟨_, ⟨congrArg Value.bool (decide_eq_false (by first | (intro q; exact absurd q.1 (by assumption)) | (simp only [RightP, hm, true_and]; omega))).symm, rfl⟩, hs93⟩
          ·
            have h91p : ¬ (x_.s > 768) := of_decide_eq_false h91
            refine ops_set 32 (v := .bool false) (eq_bool_of (by kernel_rfl) h91) ?_
            refine ops_set 30 (v := .bool false) (eq_bool_of (by kernel_rfl) h91) ?_
            refine ops_set 31 (v := .bool false) (eq_bool_of (by kernel_rfl) h91) ?_
            refine ops_run 1 (by kernel_rfl) ?_
            refine ops_R (runs_load (ad := ⟨b7, 8, none⟩) (v := (.int .u64 x_.e)) (by kernel_rfl) (hs12.cellAt 0 rfl rfl)) ?_
            refine ops_run 1 (by kernel_rfl) ?_
            refine ops_R (runs_load (ad := ⟨b4, 2, none⟩) (v := (.int .i64 gb)) (by kernel_rfl) (hs12.cellAt 1 rfl rfl)) ?_
            refine ops_val (v := .int .u64 (IntKind.u64.wrap gb)) (v' := .int .u64 gb) (by kernel_rfl) (congrArg (Value.int .u64) (wrap_u64 (by omega) (by omega))) ?_
            refine ops_run 3 (by kernel_rfl) ?_
            rcases Bool.eq_false_or_eq_true (decide (x_.e ≥ gb)) with h94 | h94
            ·
              have h94p : x_.e ≥ gb := of_decide_eq_true h94
              refine ops_set 40 (v := .bool true) (eq_bool_of (by kernel_rfl) h94) ?_
              refine ops_set 38 (v := .bool true) (eq_bool_of (by kernel_rfl) h94) ?_
              refine ops_set 39 (v := .bool true) (eq_bool_of (by kernel_rfl) h94) ?_
              refine ops_run 7 (by kernel_rfl) ?_
              refine ops_done (by kernel_rfl) ?_
              refine hK84 _ _ ?_
              clear hK84
              refine W.cond_true true (by kernel_rfl) rfl ?_
              refine W.seq fun K95 hK95 => ?_
              refine W.region ?_
              refine ops_run 1 (by kernel_rfl) ?_
              refine ops_done (by kernel_rfl) ?_
              refine hK95 _ _ ?_
              clear hK95
              refine W.ret (ret_seq ?_)
              have hs96 : St B w [] w10 [] := St.take (H := []) hs12
              refine ret_of (.bool false) (by kernel_rfl) ⟨_, ⟨congrArg Value.bool (decide_eq_false (by first | (intro q; exact absurd q.1 (by assumption)) | (simp only [RightP, hm, true_and]; omega))).symm, rfl⟩, hs96⟩
            ·
              have h94p : ¬ (x_.e ≥ gb) := of_decide_eq_false h94
              refine ops_set 40 (v := .bool false) (eq_bool_of (by kernel_rfl) h94) ?_
              refine ops_set 38 (v := .bool false) (eq_bool_of (by kernel_rfl) h94) ?_
              refine ops_set 39 (v := .bool false) (eq_bool_of (by kernel_rfl) h94) ?_
              refine ops_run 1 (by kernel_rfl) ?_
              refine ops_R (runs_load (ad := ⟨b7, 9, none⟩) (v := (.int .u64 x_.m)) (by kernel_rfl) (hs12.cellAt 0 rfl rfl)) ?_
              refine ops_run 1 (by kernel_rfl) ?_
              refine ops_R (runs_load (ad := ⟨b4, 1, none⟩) (v := (.int .i64 gi)) (by kernel_rfl) (hs12.cellAt 1 rfl rfl)) ?_
              refine ops_val (v := .int .u64 (IntKind.u64.wrap gi)) (v' := .int .u64 gi) (by kernel_rfl) (congrArg (Value.int .u64) (wrap_u64 (by omega) (by omega))) ?_
              refine ops_run 2 (by kernel_rfl) ?_
              refine ops_done (by kernel_rfl) ?_
              refine hK84 _ _ ?_
              clear hK84
              refine W.cond (decide (x_.m ≥ gi)) (by kernel_rfl) (fun h97 => ?_) (fun h97 => ?_)
              ·
                have h97p : x_.m ≥ gi := of_decide_eq_true h97
                refine W.seq fun K98 hK98 => ?_
                refine W.region ?_
                refine ops_run 1 (by kernel_rfl) ?_
                refine ops_done (by kernel_rfl) ?_
                refine hK98 _ _ ?_
                clear hK98
                refine W.ret (ret_seq ?_)
                have hs99 : St B w [] w10 [] := St.take (H := []) hs12
                refine ret_of (.bool false) (by kernel_rfl) ⟨_, ⟨congrArg Value.bool (decide_eq_false (by first | (intro q; exact absurd q.1 (by assumption)) | (simp only [RightP, hm, true_and]; omega))).symm, rfl⟩, hs99⟩
              ·
                have h97p : ¬ (x_.m ≥ gi) := of_decide_eq_false h97
                refine W.skip ?_
                refine hK83 _ _ ?_
                clear hK83
                refine W.seq fun K100 hK100 => ?_
                refine W.seq fun K101 hK101 => ?_
                refine W.region ?_
                refine ops_run 1 (by kernel_rfl) ?_
                refine ops_done (by kernel_rfl) ?_
                refine hK101 _ _ ?_
                clear hK101
                refine W.block ?_
                refine W.loop_start ?_
                refine loopAt_round ?_
                refine W.seq fun K102 hK102 => ?_
                refine W.seq fun K103 hK103 => ?_
                refine W.region ?_
                refine ops_run 2 (by kernel_rfl) ?_
                refine ops_done (by kernel_rfl) ?_
                refine hK103 _ _ ?_
                clear hK103
                refine W.cond_true true (by kernel_rfl) rfl ?_
                refine W.skip ?_
                refine hK102 _ _ ?_
                clear hK102
                refine W.seq fun K104 hK104 => ?_
                refine W.block ?_
                refine W.seq fun K105 hK105 => ?_
                have hs106 := hs12.drew
                refine W.regionD [(0, 0), (0, 0), (3, 3), (4, 4), (0, 0), (16, 16), (32, 32), (72, 72)] (fun w_ => St B w [] w_ [blk b7 (.cells [(.int .u64 x_.k), (.int .u64 x_.l), (.int .u64 x_.o), (.int .u64 x_.s), (.int .u64 x_.a), (.int .u64 x_.b), (.int .u64 x_.c), (.int .u64 x_.d), (.int .u64 x_.e), (.int .u64 x_.m)].toArray 76 (0, 0)), blk b4 (.cells [(.int .i64 gw), (.int .i64 gi), (.int .i64 gb)].toArray 61 (0, 0))]) (by kernel_rfl) hs106 ?_
                refine any_val (v := (.int .i64 0)) (v' := (.int .i64 0)) 0 (by kernel_rfl) (fun _ => by kernel_rfl) rfl hs106 ?_
                refine any_val (v := (.pointer (some ⟨b7, 4, none⟩))) (v' := (.pointer (some ⟨b7, 4, none⟩))) 1 (by kernel_rfl) (fun _ => by kernel_rfl) rfl hs106 ?_
                refine any_val (v := (.pointer (some ⟨b7, 4, none⟩))) (v' := (.pointer (some ⟨b7, 4, none⟩))) 2 (by kernel_rfl) (fun _ => by kernel_rfl) rfl hs106 ?_
                refine any_R 3 (by kernel_rfl) (fun _ hS_ => runs_load (ad := ⟨b7, 4, none⟩) (v := (.int .u64 x_.a)) (by kernel_rfl) (hS_.cellAt 0 rfl rfl)) hs106 ?_
                refine any_val (v := (.pointer (some ⟨b4, 2, none⟩))) (v' := (.pointer (some ⟨b4, 2, none⟩))) 4 (by kernel_rfl) (fun _ => by kernel_rfl) rfl hs106 ?_
                refine any_R 5 (by kernel_rfl) (fun _ hS_ => runs_load (ad := ⟨b4, 2, none⟩) (v := (.int .i64 gb)) (by kernel_rfl) (hS_.cellAt 1 rfl rfl)) hs106 ?_
                refine any_val (v := .int .u64 (IntKind.u64.wrap gb)) (v' := .int .u64 gb) 6 (by kernel_rfl) (fun _ => by kernel_rfl) (congrArg (Value.int .u64) (wrap_u64 (by omega) (by omega))) hs106 ?_
                refine any_val (v := (.bool (decide (x_.a ≥ gb)))) (v' := (.bool (decide (x_.a ≥ gb)))) 7 (by kernel_rfl) (fun _ => by kernel_rfl) rfl hs106 ?_
                refine any_done (by kernel_rfl) ?_
                refine hK105 _ _ ?_
                clear hK105
                refine W.cond (decide (x_.a ≥ gb)) (by kernel_rfl) (fun h107 => ?_) (fun h107 => ?_)
                ·
                  have h107p : x_.a ≥ gb := of_decide_eq_true h107
                  refine W.seq fun K108 hK108 => ?_
                  refine W.region ?_
                  refine ops_run 1 (by kernel_rfl) ?_
                  refine ops_done (by kernel_rfl) ?_
                  refine hK108 _ _ ?_
                  clear hK108
                  refine W.ret (ret_block (ret_seq (ret_seq (ret_block (ret_seq ?_)))))
                  have hs109 : St B w [] w10.drew [] := St.take (H := []) hs106
                  refine ret_of (.bool false) (by kernel_rfl) ⟨_, ⟨congrArg Value.bool (decide_eq_false (by first | (intro q; exact absurd q.1 (by assumption)) | (simp only [RightP, hm, true_and]; omega))).symm, rfl⟩, hs109⟩
                ·
                  have h107p : ¬ (x_.a ≥ gb) := of_decide_eq_false h107
                  refine W.skip ?_
                  refine normal_block ?_
                  refine hK104 _ _ ?_
                  clear hK104
                  refine W.region ?_
                  refine ops_run 3 (by kernel_rfl) ?_
                  refine ops_done (by kernel_rfl) ?_
                  refine loopAt_next ?_
                  refine loopAt_round ?_
                  refine W.seq fun K110 hK110 => ?_
                  refine W.seq fun K111 hK111 => ?_
                  refine W.region ?_
                  refine ops_run 2 (by kernel_rfl) ?_
                  refine ops_done (by kernel_rfl) ?_
                  refine hK111 _ _ ?_
                  clear hK111
                  refine W.cond_true true (by kernel_rfl) rfl ?_
                  refine W.skip ?_
                  refine hK110 _ _ ?_
                  clear hK110
                  refine W.seq fun K112 hK112 => ?_
                  refine W.block ?_
                  refine W.seq fun K113 hK113 => ?_
                  have hs114 := hs106.drew
                  refine W.regionD [(0, 0), (0, 0), (3, 3), (4, 4), (0, 0), (16, 16), (32, 32), (72, 72)] (fun w_ => St B w [] w_ [blk b7 (.cells [(.int .u64 x_.k), (.int .u64 x_.l), (.int .u64 x_.o), (.int .u64 x_.s), (.int .u64 x_.a), (.int .u64 x_.b), (.int .u64 x_.c), (.int .u64 x_.d), (.int .u64 x_.e), (.int .u64 x_.m)].toArray 76 (0, 0)), blk b4 (.cells [(.int .i64 gw), (.int .i64 gi), (.int .i64 gb)].toArray 61 (0, 0))]) (by kernel_rfl) hs114 ?_
                  refine any_val (v := (.int .i64 1)) (v' := (.int .i64 1)) 0 (by kernel_rfl) (fun _ => by kernel_rfl) rfl hs114 ?_
                  refine any_val (v := (.pointer (some ⟨b7, 4, none⟩))) (v' := (.pointer (some ⟨b7, 4, none⟩))) 1 (by kernel_rfl) (fun _ => by kernel_rfl) rfl hs114 ?_
                  refine any_val (v := (.pointer (some ⟨b7, 5, none⟩))) (v' := (.pointer (some ⟨b7, 5, none⟩))) 2 (by kernel_rfl) (fun _ => by kernel_rfl) rfl hs114 ?_
                  refine any_R 3 (by kernel_rfl) (fun _ hS_ => runs_load (ad := ⟨b7, 5, none⟩) (v := (.int .u64 x_.b)) (by kernel_rfl) (hS_.cellAt 0 rfl rfl)) hs114 ?_
                  refine any_val (v := (.pointer (some ⟨b4, 2, none⟩))) (v' := (.pointer (some ⟨b4, 2, none⟩))) 4 (by kernel_rfl) (fun _ => by kernel_rfl) rfl hs114 ?_
                  refine any_R 5 (by kernel_rfl) (fun _ hS_ => runs_load (ad := ⟨b4, 2, none⟩) (v := (.int .i64 gb)) (by kernel_rfl) (hS_.cellAt 1 rfl rfl)) hs114 ?_
                  refine any_val (v := .int .u64 (IntKind.u64.wrap gb)) (v' := .int .u64 gb) 6 (by kernel_rfl) (fun _ => by kernel_rfl) (congrArg (Value.int .u64) (wrap_u64 (by omega) (by omega))) hs114 ?_
                  refine any_val (v := (.bool (decide (x_.b ≥ gb)))) (v' := (.bool (decide (x_.b ≥ gb)))) 7 (by kernel_rfl) (fun _ => by kernel_rfl) rfl hs114 ?_
                  refine any_done (by kernel_rfl) ?_
                  refine hK113 _ _ ?_
                  clear hK113
                  refine W.cond (decide (x_.b ≥ gb)) (by kernel_rfl) (fun h115 => ?_) (fun h115 => ?_)
                  ·
                    have h115p : x_.b ≥ gb := of_decide_eq_true h115
                    refine W.seq fun K116 hK116 => ?_
                    refine W.region ?_
                    refine ops_run 1 (by kernel_rfl) ?_
                    refine ops_done (by kernel_rfl) ?_
                    refine hK116 _ _ ?_
                    clear hK116
                    refine W.ret (ret_block (ret_seq (ret_seq (ret_block (ret_seq ?_)))))
                    have hs117 : St B w [] w10.drew.drew [] := St.take (H := []) hs114
                    refine ret_of (.bool false) (by kernel_rfl) ⟨_, ⟨congrArg Value.bool (decide_eq_false (by first | (intro q; exact absurd q.1 (by assumption)) | (simp only [RightP, hm, true_and]; omega))).symm, rfl⟩, hs117⟩
                  ·
                    have h115p : ¬ (x_.b ≥ gb) := of_decide_eq_false h115
                    refine W.skip ?_
                    refine normal_block ?_
                    refine hK112 _ _ ?_
                    clear hK112
                    refine W.region ?_
                    refine ops_run 3 (by kernel_rfl) ?_
                    refine ops_done (by kernel_rfl) ?_
                    refine loopAt_next ?_
                    refine loopAt_round ?_
                    refine W.seq fun K118 hK118 => ?_
                    refine W.seq fun K119 hK119 => ?_
                    refine W.region ?_
                    refine ops_run 2 (by kernel_rfl) ?_
                    refine ops_done (by kernel_rfl) ?_
                    refine hK119 _ _ ?_
                    clear hK119
                    refine W.cond_true true (by kernel_rfl) rfl ?_
                    refine W.skip ?_
                    refine hK118 _ _ ?_
                    clear hK118
                    refine W.seq fun K120 hK120 => ?_
                    refine W.block ?_
                    refine W.seq fun K121 hK121 => ?_
                    have hs122 := hs114.drew
                    refine W.regionD [(0, 0), (0, 0), (3, 3), (4, 4), (0, 0), (16, 16), (32, 32), (72, 72)] (fun w_ => St B w [] w_ [blk b7 (.cells [(.int .u64 x_.k), (.int .u64 x_.l), (.int .u64 x_.o), (.int .u64 x_.s), (.int .u64 x_.a), (.int .u64 x_.b), (.int .u64 x_.c), (.int .u64 x_.d), (.int .u64 x_.e), (.int .u64 x_.m)].toArray 76 (0, 0)), blk b4 (.cells [(.int .i64 gw), (.int .i64 gi), (.int .i64 gb)].toArray 61 (0, 0))]) (by kernel_rfl) hs122 ?_
                    refine any_val (v := (.int .i64 2)) (v' := (.int .i64 2)) 0 (by kernel_rfl) (fun _ => by kernel_rfl) rfl hs122 ?_
                    refine any_val (v := (.pointer (some ⟨b7, 4, none⟩))) (v' := (.pointer (some ⟨b7, 4, none⟩))) 1 (by kernel_rfl) (fun _ => by kernel_rfl) rfl hs122 ?_
                    refine any_val (v := (.pointer (some ⟨b7, 6, none⟩))) (v' := (.pointer (some ⟨b7, 6, none⟩))) 2 (by kernel_rfl) (fun _ => by kernel_rfl) rfl hs122 ?_
                    refine any_R 3 (by kernel_rfl) (fun _ hS_ => runs_load (ad := ⟨b7, 6, none⟩) (v := (.int .u64 x_.c)) (by kernel_rfl) (hS_.cellAt 0 rfl rfl)) hs122 ?_
                    refine any_val (v := (.pointer (some ⟨b4, 2, none⟩))) (v' := (.pointer (some ⟨b4, 2, none⟩))) 4 (by kernel_rfl) (fun _ => by kernel_rfl) rfl hs122 ?_
                    refine any_R 5 (by kernel_rfl) (fun _ hS_ => runs_load (ad := ⟨b4, 2, none⟩) (v := (.int .i64 gb)) (by kernel_rfl) (hS_.cellAt 1 rfl rfl)) hs122 ?_
                    refine any_val (v := .int .u64 (IntKind.u64.wrap gb)) (v' := .int .u64 gb) 6 (by kernel_rfl) (fun _ => by kernel_rfl) (congrArg (Value.int .u64) (wrap_u64 (by omega) (by omega))) hs122 ?_
                    refine any_val (v := (.bool (decide (x_.c ≥ gb)))) (v' := (.bool (decide (x_.c ≥ gb)))) 7 (by kernel_rfl) (fun _ => by kernel_rfl) rfl hs122 ?_
                    refine any_done (by kernel_rfl) ?_
                    refine hK121 _ _ ?_
                    clear hK121
                    refine W.cond (decide (x_.c ≥ gb)) (by kernel_rfl) (fun h123 => ?_) (fun h123 => ?_)
                    ·
                      have h123p : x_.c ≥ gb := of_decide_eq_true h123
                      refine W.seq fun K124 hK124 => ?_
                      refine W.region ?_
                      refine ops_run 1 (by kernel_rfl) ?_
                      refine ops_done (by kernel_rfl) ?_
                      refine hK124 _ _ ?_
                      clear hK124
                      refine W.ret (ret_block (ret_seq (ret_seq (ret_block (ret_seq ?_)))))
                      have hs125 : St B w [] w10.drew.drew.drew [] := St.take (H := []) hs122
                      refine ret_of (.bool false) (by kernel_rfl) ⟨_, ⟨congrArg Value.bool (decide_eq_false (by first | (intro q; exact absurd q.1 (by assumption)) | (simp only [RightP, hm, true_and]; omega))).symm, rfl⟩, hs125⟩
                    ·
                      have h123p : ¬ (x_.c ≥ gb) := of_decide_eq_false h123
                      refine W.skip ?_
                      refine normal_block ?_
                      refine hK120 _ _ ?_
                      clear hK120
                      refine W.region ?_
                      refine ops_run 3 (by kernel_rfl) ?_
                      refine ops_done (by kernel_rfl) ?_
                      refine loopAt_next ?_
                      refine loopAt_round ?_
                      refine W.seq fun K126 hK126 => ?_
                      refine W.seq fun K127 hK127 => ?_
                      refine W.region ?_
                      refine ops_run 2 (by kernel_rfl) ?_
                      refine ops_done (by kernel_rfl) ?_
                      refine hK127 _ _ ?_
                      clear hK127
                      refine W.cond_true true (by kernel_rfl) rfl ?_
                      refine W.skip ?_
                      refine hK126 _ _ ?_
                      clear hK126
                      refine W.seq fun K128 hK128 => ?_
                      refine W.block ?_
                      refine W.seq fun K129 hK129 => ?_
                      have hs130 := hs122.drew
                      refine W.regionD [(0, 0), (0, 0), (3, 3), (4, 4), (0, 0), (16, 16), (32, 32), (72, 72)] (fun w_ => St B w [] w_ [blk b7 (.cells [(.int .u64 x_.k), (.int .u64 x_.l), (.int .u64 x_.o), (.int .u64 x_.s), (.int .u64 x_.a), (.int .u64 x_.b), (.int .u64 x_.c), (.int .u64 x_.d), (.int .u64 x_.e), (.int .u64 x_.m)].toArray 76 (0, 0)), blk b4 (.cells [(.int .i64 gw), (.int .i64 gi), (.int .i64 gb)].toArray 61 (0, 0))]) (by kernel_rfl) hs130 ?_
                      refine any_val (v := (.int .i64 3)) (v' := (.int .i64 3)) 0 (by kernel_rfl) (fun _ => by kernel_rfl) rfl hs130 ?_
                      refine any_val (v := (.pointer (some ⟨b7, 4, none⟩))) (v' := (.pointer (some ⟨b7, 4, none⟩))) 1 (by kernel_rfl) (fun _ => by kernel_rfl) rfl hs130 ?_
                      refine any_val (v := (.pointer (some ⟨b7, 7, none⟩))) (v' := (.pointer (some ⟨b7, 7, none⟩))) 2 (by kernel_rfl) (fun _ => by kernel_rfl) rfl hs130 ?_
                      refine any_R 3 (by kernel_rfl) (fun _ hS_ => runs_load (ad := ⟨b7, 7, none⟩) (v := (.int .u64 x_.d)) (by kernel_rfl) (hS_.cellAt 0 rfl rfl)) hs130 ?_
                      refine any_val (v := (.pointer (some ⟨b4, 2, none⟩))) (v' := (.pointer (some ⟨b4, 2, none⟩))) 4 (by kernel_rfl) (fun _ => by kernel_rfl) rfl hs130 ?_
                      refine any_R 5 (by kernel_rfl) (fun _ hS_ => runs_load (ad := ⟨b4, 2, none⟩) (v := (.int .i64 gb)) (by kernel_rfl) (hS_.cellAt 1 rfl rfl)) hs130 ?_
                      refine any_val (v := .int .u64 (IntKind.u64.wrap gb)) (v' := .int .u64 gb) 6 (by kernel_rfl) (fun _ => by kernel_rfl) (congrArg (Value.int .u64) (wrap_u64 (by omega) (by omega))) hs130 ?_
                      refine any_val (v := (.bool (decide (x_.d ≥ gb)))) (v' := (.bool (decide (x_.d ≥ gb)))) 7 (by kernel_rfl) (fun _ => by kernel_rfl) rfl hs130 ?_
                      refine any_done (by kernel_rfl) ?_
                      refine hK129 _ _ ?_
                      clear hK129
                      refine W.cond (decide (x_.d ≥ gb)) (by kernel_rfl) (fun h131 => ?_) (fun h131 => ?_)
                      ·
                        have h131p : x_.d ≥ gb := of_decide_eq_true h131
                        refine W.seq fun K132 hK132 => ?_
                        refine W.region ?_
                        refine ops_run 1 (by kernel_rfl) ?_
                        refine ops_done (by kernel_rfl) ?_
                        refine hK132 _ _ ?_
                        clear hK132
                        refine W.ret (ret_block (ret_seq (ret_seq (ret_block (ret_seq ?_)))))
                        have hs133 : St B w [] w10.drew.drew.drew.drew [] := St.take (H := []) hs130
                        refine ret_of (.bool false) (by kernel_rfl) ⟨_, ⟨congrArg Value.bool (decide_eq_false (by first | (intro q; exact absurd q.1 (by assumption)) | (simp only [RightP, hm, true_and]; omega))).symm, rfl⟩, hs133⟩
                      ·
                        have h131p : ¬ (x_.d ≥ gb) := of_decide_eq_false h131
                        refine W.skip ?_
                        refine normal_block ?_
                        refine hK128 _ _ ?_
                        clear hK128
                        refine W.region ?_
                        refine ops_run 3 (by kernel_rfl) ?_
                        refine ops_done (by kernel_rfl) ?_
                        refine loopAt_next ?_
                        refine loopAt_round ?_
                        refine W.seq fun K134 hK134 => ?_
                        refine W.seq fun K135 hK135 => ?_
                        refine W.region ?_
                        refine ops_run 2 (by kernel_rfl) ?_
                        refine ops_done (by kernel_rfl) ?_
                        refine hK135 _ _ ?_
                        clear hK135
                        refine W.cond_false false (by kernel_rfl) rfl ?_
                        refine W.exit (exit_seq (exit_seq (exit_here ?_)))
                        refine hK100 _ _ ?_
                        clear hK100
                        refine W.seq fun K136 hK136 => ?_
                        refine W.region ?_
                        refine ops_run 1 (by kernel_rfl) ?_
                        refine ops_R (runs_load (ad := ⟨b7, 0, none⟩) (v := (.int .u64 x_.k)) (by kernel_rfl) (hs130.cellAt 0 rfl rfl)) ?_
                        refine ops_run 2 (by kernel_rfl) ?_
                        rcases Bool.eq_false_or_eq_true (decide (x_.k = 1)) with h137 | h137
                        ·
                          have h137p : x_.k = 1 := of_decide_eq_true h137
                          refine ops_set 63 (v := .bool true) (eq_bool_of (by kernel_rfl) h137) ?_
                          refine ops_set 62 (v := .bool true) (eq_bool_of (by kernel_rfl) h137) ?_
                          refine ops_run 1 (by kernel_rfl) ?_
                          refine ops_R (runs_load (ad := ⟨b7, 9, none⟩) (v := (.int .u64 x_.m)) (by kernel_rfl) (hs130.cellAt 0 rfl rfl)) ?_
                          refine ops_run 3 (by kernel_rfl) ?_
                          rcases Bool.eq_false_or_eq_true (decide (x_.m = 0)) with h138 | h138
                          ·
                            have h138p : x_.m = 0 := of_decide_eq_true h138
                            refine ops_set 68 (v := .bool true) (eq_bool_of (by kernel_rfl) h138) ?_
                            refine ops_set 66 (v := .bool true) (eq_bool_of (by kernel_rfl) h138) ?_
                            refine ops_set 67 (v := .bool true) (eq_bool_of (by kernel_rfl) h138) ?_
                            refine ops_run 10 (by kernel_rfl) ?_
                            refine ops_done (by kernel_rfl) ?_
                            refine hK136 _ _ ?_
                            clear hK136
                            refine W.ret ?_
                            have hs139 : St B w [] w10.drew.drew.drew.drew [] := St.take (H := []) hs130
                            refine ret_of (.bool true) (by kernel_rfl) ⟨_, ⟨congrArg Value.bool (decide_eq_true (by first | (intro q; exact absurd q.1 (by assumption)) | (simp only [RightP, hm, true_and]; omega))).symm, rfl⟩, hs139⟩
                          ·
                            have h138p : ¬ (x_.m = 0) := of_decide_eq_false h138
                            refine ops_set 68 (v := .bool false) (eq_bool_of (by kernel_rfl) h138) ?_
                            refine ops_set 66 (v := .bool false) (eq_bool_of (by kernel_rfl) h138) ?_
                            refine ops_set 67 (v := .bool false) (eq_bool_of (by kernel_rfl) h138) ?_
                            refine ops_run 1 (by kernel_rfl) ?_
                            refine ops_R (runs_load (ad := ⟨b7, 0, none⟩) (v := (.int .u64 x_.k)) (by kernel_rfl) (hs130.cellAt 0 rfl rfl)) ?_
                            refine ops_run 2 (by kernel_rfl) ?_
                            rcases Bool.eq_false_or_eq_true (decide (x_.k = 2)) with h140 | h140
                            ·
                              have h140p : x_.k = 2 := of_decide_eq_true h140
                              refine ops_set 72 (v := .bool true) (eq_bool_of (by kernel_rfl) h140) ?_
                              refine ops_set 71 (v := .bool true) (eq_bool_of (by kernel_rfl) h140) ?_
                              refine ops_run 1 (by kernel_rfl) ?_
                              refine ops_R (runs_load (ad := ⟨b7, 3, none⟩) (v := (.int .u64 x_.s)) (by kernel_rfl) (hs130.cellAt 0 rfl rfl)) ?_
                              refine ops_run 4 (by kernel_rfl) ?_
                              refine ops_done (by kernel_rfl) ?_
                              refine hK136 _ _ ?_
                              clear hK136
                              refine W.ret ?_
                              have hs141 : St B w [] w10.drew.drew.drew.drew [] := St.take (H := []) hs130
                              refine ret_of (.bool (decide (x_.s = 0))) (by kernel_rfl) ⟨_, ⟨congrArg Value.bool (decide_eq_decide.2 (by simp only [RightP, hm, true_and]; omega)), rfl⟩, hs141⟩
                            ·
                              have h140p : ¬ (x_.k = 2) := of_decide_eq_false h140
                              refine ops_set 72 (v := .bool false) (eq_bool_of (by kernel_rfl) h140) ?_
                              refine ops_set 71 (v := .bool false) (eq_bool_of (by kernel_rfl) h140) ?_
                              refine ops_run 6 (by kernel_rfl) ?_
                              refine ops_done (by kernel_rfl) ?_
                              refine hK136 _ _ ?_
                              clear hK136
                              refine W.ret ?_
                              have hs142 : St B w [] w10.drew.drew.drew.drew [] := St.take (H := []) hs130
                              refine ret_of (.bool false) (by kernel_rfl) ⟨_, ⟨congrArg Value.bool (decide_eq_false (by first | (intro q; exact absurd q.1 (by assumption)) | (simp only [RightP, hm, true_and]; omega))).symm, rfl⟩, hs142⟩
                        ·
                          have h137p : ¬ (x_.k = 1) := of_decide_eq_false h137
                          refine ops_set 63 (v := .bool false) (eq_bool_of (by kernel_rfl) h137) ?_
                          refine ops_set 62 (v := .bool false) (eq_bool_of (by kernel_rfl) h137) ?_
                          refine ops_run 6 (by kernel_rfl) ?_
                          refine ops_R (runs_load (ad := ⟨b7, 0, none⟩) (v := (.int .u64 x_.k)) (by kernel_rfl) (hs130.cellAt 0 rfl rfl)) ?_
                          refine ops_run 2 (by kernel_rfl) ?_
                          rcases Bool.eq_false_or_eq_true (decide (x_.k = 2)) with h143 | h143
                          ·
                            have h143p : x_.k = 2 := of_decide_eq_true h143
                            refine ops_set 72 (v := .bool true) (eq_bool_of (by kernel_rfl) h143) ?_
                            refine ops_set 71 (v := .bool true) (eq_bool_of (by kernel_rfl) h143) ?_
                            refine ops_run 1 (by kernel_rfl) ?_
                            refine ops_R (runs_load (ad := ⟨b7, 3, none⟩) (v := (.int .u64 x_.s)) (by kernel_rfl) (hs130.cellAt 0 rfl rfl)) ?_
                            refine ops_run 4 (by kernel_rfl) ?_
                            refine ops_done (by kernel_rfl) ?_
                            refine hK136 _ _ ?_
                            clear hK136
                            refine W.ret ?_
                            have hs144 : St B w [] w10.drew.drew.drew.drew [] := St.take (H := []) hs130
                            refine ret_of (.bool (decide (x_.s = 0))) (by kernel_rfl) ⟨_, ⟨congrArg Value.bool (decide_eq_decide.2 (by simp only [RightP, hm, true_and]; omega)), rfl⟩, hs144⟩
                          ·
                            have h143p : ¬ (x_.k = 2) := of_decide_eq_false h143
                            refine ops_set 72 (v := .bool false) (eq_bool_of (by kernel_rfl) h143) ?_
                            refine ops_set 71 (v := .bool false) (eq_bool_of (by kernel_rfl) h143) ?_
                            refine ops_run 6 (by kernel_rfl) ?_
                            refine ops_done (by kernel_rfl) ?_
                            refine hK136 _ _ ?_
                            clear hK136
                            refine W.ret ?_
                            have hs145 : St B w [] w10.drew.drew.drew.drew [] := St.take (H := []) hs130
                            refine ret_of (.bool false) (by kernel_rfl) ⟨_, ⟨congrArg Value.bool (decide_eq_false (by first | (intro q; exact absurd q.1 (by assumption)) | (simp only [RightP, hm, true_and]; omega))).symm, rfl⟩, hs145⟩

set_option maxRecDepth 20000 in
theorem sset_spec {b : Nat} {img : List Int} {l : List (Int × Int)} {at_ x_ : Int} (B : Nat) (w : World) : Spec Try.prog 67 #[(.pointer (some ⟨b, 0, none⟩)), (.int .i64 at_), (.int .u64 x_)] B w [viewA (ptr b) img l] (fun v H' => v = .int .i64 (vwrite img l at_ x_).1 ∧ H' = [viewA (ptr b) img (vwrite img l at_ x_).2]) := by
  refine spec_W Try.func67 rfl fun l0 hs => ?_
  refine W.seq fun K1 hK1 => ?_
  refine W.region ?_
  refine ops_run 1 (by kernel_rfl) ?_
  refine ops_done (by kernel_rfl) ?_
  refine hK1 _ _ ?_
  clear hK1
  refine W.seq fun K2 hK2 => ?_
  refine W.block ?_
  refine W.seq fun K3 hK3 => ?_
  refine W.region ?_
  refine ops_run 3 (by kernel_rfl) ?_
  refine ops_done (by kernel_rfl) ?_
  refine hK3 _ _ ?_
  clear hK3
  refine W.cond_false false (by kernel_rfl) rfl ?_
  refine W.seq fun K4 hK4 => ?_
  refine W.seq fun K5 hK5 => ?_
  refine W.region ?_
  refine ops_run 3 (by kernel_rfl) ?_
  refine ops_done (by kernel_rfl) ?_
  refine hK5 _ _ ?_
  clear hK5
  refine W.cond (decide (at_ < 0)) (by kernel_rfl) (fun h6 => ?_) (fun h6 => ?_)
  ·
    have h6p : at_ < 0 := of_decide_eq_true h6
    refine W.skip ?_
    refine hK4 _ _ ?_
    clear hK4
    refine W.cond (decide (at_ < 0)) (by kernel_rfl) (fun h7 => ?_) (fun h7 => ?_)
    ·
      have h7p : at_ < 0 := of_decide_eq_true h7
      refine W.seq fun K8 hK8 => ?_
      refine W.region ?_
      refine ops_run 1 (by kernel_rfl) ?_
      refine ops_done (by kernel_rfl) ?_
      refine hK8 _ _ ?_
      clear hK8
      refine W.ret (ret_block (ret_seq ?_))
      have e1_ : (vwrite img l at_ x_).1 = 8 := by first | (exfalso; omega) | (simp only [vwrite]; rw [if_pos (by omega)]) | (simp only [vwrite]; rw [if_neg (by omega), if_pos (by assumption)]) | (simp only [vwrite]; rw [if_neg (by omega), if_neg (by assumption)])
      have e2_ : (vwrite img l at_ x_).2 = l := by first | (exfalso; omega) | (simp only [vwrite]; rw [if_pos (by omega)]) | (simp only [vwrite]; rw [if_neg (by omega), if_pos (by assumption)]) | (simp only [vwrite]; rw [if_neg (by omega), if_neg (by assumption)])
      refine ret_of (.int .i64 8) (by kernel_rfl) ⟨_, ⟨by rw [e1_], by rw [e2_]⟩, hs⟩
    ·
      have h7p : ¬ (at_ < 0) := of_decide_eq_false h7
      refine W.seq fun K9 hK9 => ?_
      refine W.region ?_
      refine ops_run 2 (by kernel_rfl) ?_
      refine ops_call (pre := []) hs (by kernel_rfl) (get_spec (at_ := at_) (hv := (hs.entAt 0 rfl viewA_at)) B _) ?_
      rintro _ _ w10 ⟨rfl, rfl⟩ hs11
      have hs12 : St B w l0 w10 [viewA (ptr b) img l] := hs11
      refine ops_run 3 (by kernel_rfl) ?_
      refine ops_done (by kernel_rfl) ?_
      refine hK9 _ _ ?_
      clear hK9
      refine W.cond (decide ((vget img l at_) = x_)) (by kernel_rfl) (fun h13 => ?_) (fun h13 => ?_)
      ·
        have h13p : (vget img l at_) = x_ := of_decide_eq_true h13
        refine W.seq fun K14 hK14 => ?_
        refine W.region ?_
        refine ops_run 1 (by kernel_rfl) ?_
        refine ops_done (by kernel_rfl) ?_
        refine hK14 _ _ ?_
        clear hK14
        refine W.ret (ret_block (ret_seq ?_))
        have e1_ : (vwrite img l at_ x_).1 = 0 := by first | (exfalso; omega) | (simp only [vwrite]; rw [if_pos (by omega)]) | (simp only [vwrite]; rw [if_neg (by omega), if_pos (by assumption)]) | (simp only [vwrite]; rw [if_neg (by omega), if_neg (by assumption)])
        have e2_ : (vwrite img l at_ x_).2 = l := by first | (exfalso; omega) | (simp only [vwrite]; rw [if_pos (by omega)]) | (simp only [vwrite]; rw [if_neg (by omega), if_pos (by assumption)]) | (simp only [vwrite]; rw [if_neg (by omega), if_neg (by assumption)])
        refine ret_of (.int .i64 0) (by kernel_rfl) ⟨_, ⟨by rw [e1_], by rw [e2_]⟩, hs12⟩
      ·
        have h13p : ¬ ((vget img l at_) = x_) := of_decide_eq_false h13
        refine W.skip ?_
        refine normal_block ?_
        refine hK2 _ _ ?_
        clear hK2
        refine W.seq fun K15 hK15 => ?_
        refine W.region ?_
        refine ops_run 3 (by kernel_rfl) ?_
        refine ops_call (pre := [viewA (ptr b) img l]) hs12 (by kernel_rfl) (put_spec (p := (.pointer (some ⟨b, 0, none⟩))) (img := img) (l := l) (at_ := at_) (x_ := x_) B _) ?_
        rintro _ _ w16 ⟨rfl, rfl⟩ hs17
        have hs18 : St B w l0 w16 [viewA (ptr b) img ((vput img l at_ x_).2)] := hs17
        refine ops_run 1 (by kernel_rfl) ?_
        refine ops_done (by kernel_rfl) ?_
        refine hK15 _ _ ?_
        clear hK15
        refine W.ret ?_
        have e1_ : (vwrite img l at_ x_).1 = (vput img l at_ x_).1 := by first | (exfalso; omega) | (simp only [vwrite]; rw [if_pos (by omega)]) | (simp only [vwrite]; rw [if_neg (by omega), if_pos (by assumption)]) | (simp only [vwrite]; rw [if_neg (by omega), if_neg (by assumption)])
        have e2_ : (vwrite img l at_ x_).2 = (vput img l at_ x_).2 := by first | (exfalso; omega) | (simp only [vwrite]; rw [if_pos (by omega)]) | (simp only [vwrite]; rw [if_neg (by omega), if_pos (by assumption)]) | (simp only [vwrite]; rw [if_neg (by omega), if_neg (by assumption)])
        refine ret_of (.int .i64 ((vput img l at_ x_).1)) (by kernel_rfl) ⟨_, ⟨by rw [e1_], by rw [e2_]⟩, hs18⟩
  ·
    have h6p : ¬ (at_ < 0) := of_decide_eq_false h6
    refine W.region ?_
    refine ops_run 2 (by kernel_rfl) ?_
    refine ops_call (pre := []) hs (by kernel_rfl) (len_spec (hv := (hs.entAt 0 rfl viewA_at)) B _) ?_
    rintro _ _ w19 ⟨rfl, rfl⟩ hs20
    have hs21 : St B w l0 w19 [viewA (ptr b) img l] := hs20
    refine ops_run 2 (by kernel_rfl) ?_
    refine ops_done (by kernel_rfl) ?_
    refine hK4 _ _ ?_
    clear hK4
    refine W.cond (decide (at_ ≥ (img.length : Int))) (by kernel_rfl) (fun h22 => ?_) (fun h22 => ?_)
    ·
      have h22p : at_ ≥ (img.length : Int) := of_decide_eq_true h22
      refine W.seq fun K23 hK23 => ?_
      refine W.region ?_
      refine ops_run 1 (by kernel_rfl) ?_
      refine ops_done (by kernel_rfl) ?_
      refine hK23 _ _ ?_
      clear hK23
      refine W.ret (ret_block (ret_seq ?_))
      have e1_ : (vwrite img l at_ x_).1 = 8 := by first | (exfalso; omega) | (simp only [vwrite]; rw [if_pos (by omega)]) | (simp only [vwrite]; rw [if_neg (by omega), if_pos (by assumption)]) | (simp only [vwrite]; rw [if_neg (by omega), if_neg (by assumption)])
      have e2_ : (vwrite img l at_ x_).2 = l := by first | (exfalso; omega) | (simp only [vwrite]; rw [if_pos (by omega)]) | (simp only [vwrite]; rw [if_neg (by omega), if_pos (by assumption)]) | (simp only [vwrite]; rw [if_neg (by omega), if_neg (by assumption)])
      refine ret_of (.int .i64 8) (by kernel_rfl) ⟨_, ⟨by rw [e1_], by rw [e2_]⟩, hs21⟩
    ·
      have h22p : ¬ (at_ ≥ (img.length : Int)) := of_decide_eq_false h22
      refine W.seq fun K24 hK24 => ?_
      refine W.region ?_
      refine ops_run 2 (by kernel_rfl) ?_
      refine ops_call (pre := []) hs21 (by kernel_rfl) (get_spec (at_ := at_) (hv := (hs21.entAt 0 rfl viewA_at)) B _) ?_
      rintro _ _ w25 ⟨rfl, rfl⟩ hs26
      have hs27 : St B w l0 w25 [viewA (ptr b) img l] := hs26
      refine ops_run 3 (by kernel_rfl) ?_
      refine ops_done (by kernel_rfl) ?_
      refine hK24 _ _ ?_
      clear hK24
      refine W.cond (decide ((vget img l at_) = x_)) (by kernel_rfl) (fun h28 => ?_) (fun h28 => ?_)
      ·
        have h28p : (vget img l at_) = x_ := of_decide_eq_true h28
        refine W.seq fun K29 hK29 => ?_
        refine W.region ?_
        refine ops_run 1 (by kernel_rfl) ?_
        refine ops_done (by kernel_rfl) ?_
        refine hK29 _ _ ?_
        clear hK29
        refine W.ret (ret_block (ret_seq ?_))
        have e1_ : (vwrite img l at_ x_).1 = 0 := by first | (exfalso; omega) | (simp only [vwrite]; rw [if_pos (by omega)]) | (simp only [vwrite]; rw [if_neg (by omega), if_pos (by assumption)]) | (simp only [vwrite]; rw [if_neg (by omega), if_neg (by assumption)])
        have e2_ : (vwrite img l at_ x_).2 = l := by first | (exfalso; omega) | (simp only [vwrite]; rw [if_pos (by omega)]) | (simp only [vwrite]; rw [if_neg (by omega), if_pos (by assumption)]) | (simp only [vwrite]; rw [if_neg (by omega), if_neg (by assumption)])
        refine ret_of (.int .i64 0) (by kernel_rfl) ⟨_, ⟨by rw [e1_], by rw [e2_]⟩, hs27⟩
      ·
        have h28p : ¬ ((vget img l at_) = x_) := of_decide_eq_false h28
        refine W.skip ?_
        refine normal_block ?_
        refine hK2 _ _ ?_
        clear hK2
        refine W.seq fun K30 hK30 => ?_
        refine W.region ?_
        refine ops_run 3 (by kernel_rfl) ?_
        refine ops_call (pre := [viewA (ptr b) img l]) hs27 (by kernel_rfl) (put_spec (p := (.pointer (some ⟨b, 0, none⟩))) (img := img) (l := l) (at_ := at_) (x_ := x_) B _) ?_
        rintro _ _ w31 ⟨rfl, rfl⟩ hs32
        have hs33 : St B w l0 w31 [viewA (ptr b) img ((vput img l at_ x_).2)] := hs32
        refine ops_run 1 (by kernel_rfl) ?_
        refine ops_done (by kernel_rfl) ?_
        refine hK30 _ _ ?_
        clear hK30
        refine W.ret ?_
        have e1_ : (vwrite img l at_ x_).1 = (vput img l at_ x_).1 := by first | (exfalso; omega) | (simp only [vwrite]; rw [if_pos (by omega)]) | (simp only [vwrite]; rw [if_neg (by omega), if_pos (by assumption)]) | (simp only [vwrite]; rw [if_neg (by omega), if_neg (by assumption)])
        have e2_ : (vwrite img l at_ x_).2 = (vput img l at_ x_).2 := by first | (exfalso; omega) | (simp only [vwrite]; rw [if_pos (by omega)]) | (simp only [vwrite]; rw [if_neg (by omega), if_pos (by assumption)]) | (simp only [vwrite]; rw [if_neg (by omega), if_neg (by assumption)])
        refine ret_of (.int .i64 ((vput img l at_ x_).1)) (by kernel_rfl) ⟨_, ⟨by rw [e1_], by rw [e2_]⟩, hs33⟩

set_option maxRecDepth 20000 in
theorem sset_spec_nil {at_ x_ : Int} (B : Nat) (w : World) : Spec Try.prog 67 #[(.pointer none), (.int .i64 at_), (.int .u64 x_)] B w [] (fun v H' => v = .int .i64 2 ∧ H' = []) := by
  refine spec_Q Try.func67 rfl fun hs => ?_
  refine W.seq fun K1 hK1 => ?_
  refine W.region ?_
  refine ops_run 1 (by kernel_rfl) ?_
  refine ops_done (by kernel_rfl) ?_
  refine hK1 _ _ ?_
  clear hK1
  refine W.seq fun K2 hK2 => ?_
  refine W.block ?_
  refine W.seq fun K3 hK3 => ?_
  refine W.region ?_
  refine ops_run 3 (by kernel_rfl) ?_
  refine ops_done (by kernel_rfl) ?_
  refine hK3 _ _ ?_
  clear hK3
  refine W.cond_true true (by kernel_rfl) rfl ?_
  refine W.seq fun K4 hK4 => ?_
  refine W.region ?_
  refine ops_run 1 (by kernel_rfl) ?_
  refine ops_done (by kernel_rfl) ?_
  refine hK4 _ _ ?_
  clear hK4
  refine W.ret (ret_block (ret_seq ?_))
  refine ret_of (.int .i64 2) (by kernel_rfl) ⟨_, ⟨rfl, rfl⟩, hs⟩

set_option maxRecDepth 20000 in
theorem rset_spec {b : Nat} {img : List Int} {l : List (Int × Int)} {at_ x_ : Int} (B : Nat) (w : World) : Spec Try.prog 68 #[(.pointer (some ⟨b, 0, none⟩)), (.int .i64 at_), (.int .u64 x_)] B w [refA (ptr b) img l] (fun v H' => v = .int .i64 (vwrite img l at_ x_).1 ∧ H' = [refA (ptr b) img (vwrite img l at_ x_).2]) := by
  refine spec_W Try.func68 rfl fun l0 hs => ?_
  refine W.seq fun K1 hK1 => ?_
  refine W.region ?_
  refine ops_run 1 (by kernel_rfl) ?_
  refine ops_done (by kernel_rfl) ?_
  refine hK1 _ _ ?_
  clear hK1
  refine W.seq fun K2 hK2 => ?_
  refine W.seq fun K3 hK3 => ?_
  obtain ⟨⟨_, ia4, ic5, la6, lc7, mn8⟩, ⟨ex9, hok10⟩, hs11⟩ := St.open hs
  have hs12 : St B w l0 w [blk b (.cells [(.slice ia4 img.length ic5), (.slice la6 l.length lc7), (.bool mn8)].toArray 44 (0, 0)), kU64.row ia4 ic5 img, kWr.row la6 lc7 l] := by cases ex9; exact hs11
  have := hok10.many
  refine W.region ?_
  refine ops_run 3 (by kernel_rfl) ?_
  rcases Bool.eq_false_or_eq_true (decide (at_ < 0)) with h13 | h13
  ·
    have h13p : at_ < 0 := of_decide_eq_true h13
    refine ops_set 9 (v := .bool true) (eq_bool_of (by kernel_rfl) h13) ?_
    refine ops_set 8 (v := .bool true) (eq_bool_of (by kernel_rfl) h13) ?_
    refine ops_run 8 (by kernel_rfl) ?_
    refine ops_done (by kernel_rfl) ?_
    have hs14 : St B w l0 w [refA (ptr b) img l] := ref_close (l := l) (ia := ia4) (ic := ic5) (la := la6) (lc := lc7) (many := mn8) hok10 hs12
    refine hK3 _ _ ?_
    clear hK3
    refine W.cond_true true (by kernel_rfl) rfl ?_
    refine W.seq fun K15 hK15 => ?_
    refine W.region ?_
    refine ops_run 1 (by kernel_rfl) ?_
    refine ops_done (by kernel_rfl) ?_
    refine hK15 _ _ ?_
    clear hK15
    refine W.ret (ret_seq ?_)
    have e1_ : (vwrite img l at_ x_).1 = 8 := by first | (exfalso; omega) | (simp only [vwrite]; rw [if_pos (by omega)]) | (simp only [vwrite]; rw [if_neg (by omega), if_pos (by assumption)]) | (simp only [vwrite]; rw [if_neg (by omega), if_neg (by assumption)])
    have e2_ : (vwrite img l at_ x_).2 = l := by first | (exfalso; omega) | (simp only [vwrite]; rw [if_pos (by omega)]) | (simp only [vwrite]; rw [if_neg (by omega), if_pos (by assumption)]) | (simp only [vwrite]; rw [if_neg (by omega), if_neg (by assumption)])
    refine ret_of (.int .i64 8) (by kernel_rfl) ⟨_, ⟨by rw [e1_], by rw [e2_]⟩, hs14⟩
  ·
    have h13p : ¬ (at_ < 0) := of_decide_eq_false h13
    refine ops_set 9 (v := .bool false) (eq_bool_of (by kernel_rfl) h13) ?_
    refine ops_set 8 (v := .bool false) (eq_bool_of (by kernel_rfl) h13) ?_
    refine ops_run 4 (by kernel_rfl) ?_
    refine ops_R (runs_load (ad := ⟨b, 0, none⟩) (v := (.slice ia4 img.length ic5)) (by kernel_rfl) (hs12.cellAt 0 rfl rfl)) ?_
    refine ops_run 3 (by kernel_rfl) ?_
    refine ops_done (by kernel_rfl) ?_
    have hs16 : St B w l0 w [refA (ptr b) img l] := ref_close (l := l) (ia := ia4) (ic := ic5) (la := la6) (lc := lc7) (many := mn8) hok10 hs12
    refine hK3 _ _ ?_
    clear hK3
    refine W.cond (decide (at_ ≥ (img.length : Int))) (by kernel_rfl) (fun h17 => ?_) (fun h17 => ?_)
    ·
      have h17p : at_ ≥ (img.length : Int) := of_decide_eq_true h17
      refine W.seq fun K18 hK18 => ?_
      refine W.region ?_
      refine ops_run 1 (by kernel_rfl) ?_
      refine ops_done (by kernel_rfl) ?_
      refine hK18 _ _ ?_
      clear hK18
      refine W.ret (ret_seq ?_)
      have e1_ : (vwrite img l at_ x_).1 = 8 := by first | (exfalso; omega) | (simp only [vwrite]; rw [if_pos (by omega)]) | (simp only [vwrite]; rw [if_neg (by omega), if_pos (by assumption)]) | (simp only [vwrite]; rw [if_neg (by omega), if_neg (by assumption)])
      have e2_ : (vwrite img l at_ x_).2 = l := by first | (exfalso; omega) | (simp only [vwrite]; rw [if_pos (by omega)]) | (simp only [vwrite]; rw [if_neg (by omega), if_pos (by assumption)]) | (simp only [vwrite]; rw [if_neg (by omega), if_neg (by assumption)])
      refine ret_of (.int .i64 8) (by kernel_rfl) ⟨_, ⟨by rw [e1_], by rw [e2_]⟩, hs16⟩
    ·
      have h17p : ¬ (at_ ≥ (img.length : Int)) := of_decide_eq_false h17
      refine W.skip ?_
      refine hK2 _ _ ?_
      clear hK2
      refine W.seq fun K19 hK19 => ?_
      refine W.seq fun K20 hK20 => ?_
      refine W.region ?_
      refine ops_run 2 (by kernel_rfl) ?_
      refine ops_call (pre := []) hs16 (by kernel_rfl) (rget_spec (at_ := at_) (hv := (hs16.entAt 0 rfl refA_at)) B _) ?_
      rintro _ _ w21 ⟨rfl, rfl⟩ hs22
      have hs23 : St B w l0 w21 [refA (ptr b) img l] := hs22
      refine ops_run 2 (by kernel_rfl) ?_
      refine ops_done (by kernel_rfl) ?_
      refine hK20 _ _ ?_
      clear hK20
      refine W.cond (decide ((vget img l at_) = x_)) (by kernel_rfl) (fun h24 => ?_) (fun h24 => ?_)
      ·
        have h24p : (vget img l at_) = x_ := of_decide_eq_true h24
        refine W.seq fun K25 hK25 => ?_
        refine W.region ?_
        refine ops_run 1 (by kernel_rfl) ?_
        refine ops_done (by kernel_rfl) ?_
        refine hK25 _ _ ?_
        clear hK25
        refine W.ret (ret_seq ?_)
        have e1_ : (vwrite img l at_ x_).1 = 0 := by first | (exfalso; omega) | (simp only [vwrite]; rw [if_pos (by omega)]) | (simp only [vwrite]; rw [if_neg (by omega), if_pos (by assumption)]) | (simp only [vwrite]; rw [if_neg (by omega), if_neg (by assumption)])
        have e2_ : (vwrite img l at_ x_).2 = l := by first | (exfalso; omega) | (simp only [vwrite]; rw [if_pos (by omega)]) | (simp only [vwrite]; rw [if_neg (by omega), if_pos (by assumption)]) | (simp only [vwrite]; rw [if_neg (by omega), if_neg (by assumption)])
        refine ret_of (.int .i64 0) (by kernel_rfl) ⟨_, ⟨by rw [e1_], by rw [e2_]⟩, hs23⟩
      ·
        have h24p : ¬ ((vget img l at_) = x_) := of_decide_eq_false h24
        refine W.skip ?_
        refine hK19 _ _ ?_
        clear hK19
        refine W.seq fun K26 hK26 => ?_
        refine W.region ?_
        refine ops_run 3 (by kernel_rfl) ?_
        refine ops_call (pre := [refA (ptr b) img l]) hs23 (by kernel_rfl) (rput_spec (p := (.pointer (some ⟨b, 0, none⟩))) (img := img) (l := l) (at_ := at_) (x_ := x_) B _) ?_
        rintro _ _ w27 ⟨rfl, rfl⟩ hs28
        have hs29 : St B w l0 w27 [refA (ptr b) img ((vput img l at_ x_).2)] := hs28
        refine ops_run 1 (by kernel_rfl) ?_
        refine ops_done (by kernel_rfl) ?_
        refine hK26 _ _ ?_
        clear hK26
        refine W.ret ?_
        have e1_ : (vwrite img l at_ x_).1 = (vput img l at_ x_).1 := by first | (exfalso; omega) | (simp only [vwrite]; rw [if_pos (by omega)]) | (simp only [vwrite]; rw [if_neg (by omega), if_pos (by assumption)]) | (simp only [vwrite]; rw [if_neg (by omega), if_neg (by assumption)])
        have e2_ : (vwrite img l at_ x_).2 = (vput img l at_ x_).2 := by first | (exfalso; omega) | (simp only [vwrite]; rw [if_pos (by omega)]) | (simp only [vwrite]; rw [if_neg (by omega), if_pos (by assumption)]) | (simp only [vwrite]; rw [if_neg (by omega), if_neg (by assumption)])
        refine ret_of (.int .i64 ((vput img l at_ x_).1)) (by kernel_rfl) ⟨_, ⟨by rw [e1_], by rw [e2_]⟩, hs29⟩

set_option maxRecDepth 20000 in
set_option maxHeartbeats 4000000 in
theorem iput_spec {b : Nat} {img : List Int} {l : List (Int × Int)} {at_ : Int} {x_ : Nd} (B : Nat) (w : World) (hat : -1 ≤ at_ ∧ at_ ≤ 1000000) : Spec Try.prog 57 #[(.pointer (some ⟨b, 0, none⟩)), (.int .i64 at_), (.agg #[(.int .u64 x_.k), (.int .u64 x_.l), (.int .u64 x_.o), (.int .u64 x_.s), (.int .u64 x_.a), (.int .u64 x_.b), (.int .u64 x_.c), (.int .u64 x_.d), (.int .u64 x_.e), (.int .u64 x_.m)])] B w [viewA (ptr b) img l] (fun v H' => v = .int .i64 (vwrites img at_ l 0 x_.list).1 ∧ H' = [viewA (ptr b) img (vwrites img at_ l 0 x_.list).2]) := by
  refine spec_W Try.func57 rfl fun l0 hs => ?_
  refine W.seq fun K1 hK1 => ?_
  refine W.region ?_
  refine ops_new (fun b => .pointer (some ⟨b, 0, none⟩)) (.cells [(.int .u64 x_.k), (.int .u64 x_.l), (.int .u64 x_.o), (.int .u64 x_.s), (.int .u64 x_.a), (.int .u64 x_.b), (.int .u64 x_.c), (.int .u64 x_.d), (.int .u64 x_.e), (.int .u64 x_.m)].toArray 103 (0, 0)) hs (by kernel_rfl) (fun b4 w2 hs3 => ?_)
  refine ops_run 1 (by kernel_rfl) ?_
  refine ops_done (by kernel_rfl) ?_
  refine hK1 _ _ ?_
  clear hK1
  refine W.seq fun K5 hK5 => ?_
  refine W.seq fun K6 hK6 => ?_
  refine W.region ?_
  refine ops_R (runs_loadAgg (ad := ⟨b4, 0, none⟩) (cs := [(.int .u64 x_.k), (.int .u64 x_.l), (.int .u64 x_.o), (.int .u64 x_.s), (.int .u64 x_.a), (.int .u64 x_.b), (.int .u64 x_.c), (.int .u64 x_.d), (.int .u64 x_.e), (.int .u64 x_.m)]) (by kernel_rfl) (cells_sub (hs3.heapAt 0 rfl) rfl)) ?_
  refine ops_run 1 (by kernel_rfl) ?_
  refine ops_done (by kernel_rfl) ?_
  refine hK6 _ _ ?_
  clear hK6
  refine W.block ?_
  refine W.loop_start ?_
  refine loopAt_round ?_
  refine W.seq fun K7 hK7 => ?_
  refine W.region ?_
  refine ops_run 1 (by kernel_rfl) ?_
  refine ops_done (by kernel_rfl) ?_
  refine hK7 _ _ ?_
  clear hK7
  refine W.seq fun K8 hK8 => ?_
  refine W.cond_true true (by kernel_rfl) rfl ?_
  refine W.skip ?_
  refine hK8 _ _ ?_
  clear hK8
  refine W.seq fun K9 hK9 => ?_
  refine W.block ?_
  refine W.seq fun K10 hK10 => ?_
  refine W.region ?_
  refine ops_run 4 (by kernel_rfl) ?_
  refine ops_done (by kernel_rfl) ?_
  refine hK10 _ _ ?_
  clear hK10
  refine W.seq fun K11 hK11 => ?_
  refine W.region ?_
  refine ops_run 3 (by kernel_rfl) ?_
  refine ops_val (v := .int .i64 (IntKind.i64.wrap (at_ + 0))) (v' := .int .i64 (at_ + 0)) (by kernel_rfl) (congrArg (Value.int .i64) (wrap_i64 (by omega) (by omega))) ?_
  refine ops_run 1 (by kernel_rfl) ?_
  have hs12 : St B w l0 w2 [viewA (ptr b) img l, blk b4 (.cells [(.int .u64 x_.k), (.int .u64 x_.l), (.int .u64 x_.o), (.int .u64 x_.s), (.int .u64 x_.a), (.int .u64 x_.b), (.int .u64 x_.c), (.int .u64 x_.d), (.int .u64 x_.e), (.int .u64 x_.m)].toArray 103 (0, 0))] := hs3.front 1 (by simp)
  refine ops_call (pre := [viewA (ptr b) img l]) hs12 (by kernel_rfl) (sset_spec (b := b) (img := img) (l := l) (at_ := (at_ + 0)) (x_ := x_.k) B _) ?_
  rintro _ _ w13 ⟨rfl, rfl⟩ hs14
  have hs15 : St B w l0 w13 [viewA (ptr b) img ((vwrite img l (at_ + 0) x_.k).2), blk b4 (.cells [(.int .u64 x_.k), (.int .u64 x_.l), (.int .u64 x_.o), (.int .u64 x_.s), (.int .u64 x_.a), (.int .u64 x_.b), (.int .u64 x_.c), (.int .u64 x_.d), (.int .u64 x_.e), (.int .u64 x_.m)].toArray 103 (0, 0))] := hs14
  refine ops_run 1 (by kernel_rfl) ?_
  refine ops_done (by kernel_rfl) ?_
  refine hK11 _ _ ?_
  clear hK11
  refine W.seq fun K16 hK16 => ?_
  refine W.region ?_
  refine ops_run 2 (by kernel_rfl) ?_
  refine ops_done (by kernel_rfl) ?_
  refine hK16 _ _ ?_
  clear hK16
  refine W.cond (!decide ((vwrite img l (at_ + 0) x_.k).1 = 0)) (by kernel_rfl) (fun h17 => ?_) (fun h17 => ?_)
  ·
    have h17p : ¬ ((vwrite img l (at_ + 0) x_.k).1 = 0) := of_decide_eq_false (bnot_true h17)
    refine W.seq fun K18 hK18 => ?_
    refine W.region ?_
    refine ops_run 2 (by kernel_rfl) ?_
    refine ops_done (by kernel_rfl) ?_
    refine hK18 _ _ ?_
    clear hK18
    refine W.ret (ret_block (ret_seq (ret_seq (ret_block (ret_seq ?_)))))
    have hs19 : St B w l0 w13 [viewA (ptr b) img ((vwrite img l (at_ + 0) x_.k).2)] := St.take (H := [viewA (ptr b) img ((vwrite img l (at_ + 0) x_.k).2)]) hs15
    have e1_ : (vwrites img at_ l 0 x_.list).1 = (vwrite img l (at_ + 0) x_.k).1 := by simp only [Nd.list, vwrites, Int.reduceAdd, if_true, if_false, h17p]
    have e2_ : (vwrites img at_ l 0 x_.list).2 = (vwrite img l (at_ + 0) x_.k).2 := by simp only [Nd.list, vwrites, Int.reduceAdd, if_true, if_false, h17p]
    refine ret_of (.int .i64 ((vwrite img l (at_ + 0) x_.k).1)) (by kernel_rfl) ⟨_, ⟨by rw [e1_], by rw [e2_]⟩, hs19⟩
  ·
    have h17p : (vwrite img l (at_ + 0) x_.k).1 = 0 := of_decide_eq_true (bnot_false h17)
    refine W.skip ?_
    refine normal_block ?_
    refine hK9 _ _ ?_
    clear hK9
    refine W.region ?_
    refine ops_run 2 (by kernel_rfl) ?_
    refine ops_done (by kernel_rfl) ?_
    refine loopAt_next ?_
    refine loopAt_round ?_
    refine W.seq fun K20 hK20 => ?_
    refine W.region ?_
    refine ops_run 1 (by kernel_rfl) ?_
    refine ops_done (by kernel_rfl) ?_
    refine hK20 _ _ ?_
    clear hK20
    refine W.seq fun K21 hK21 => ?_
    refine W.cond_true true (by kernel_rfl) rfl ?_
    refine W.skip ?_
    refine hK21 _ _ ?_
    clear hK21
    refine W.seq fun K22 hK22 => ?_
    refine W.block ?_
    refine W.seq fun K23 hK23 => ?_
    refine W.region ?_
    refine ops_run 4 (by kernel_rfl) ?_
    refine ops_done (by kernel_rfl) ?_
    refine hK23 _ _ ?_
    clear hK23
    refine W.seq fun K24 hK24 => ?_
    refine W.region ?_
    refine ops_run 3 (by kernel_rfl) ?_
    refine ops_val (v := .int .i64 (IntKind.i64.wrap (at_ + 1))) (v' := .int .i64 (at_ + 1)) (by kernel_rfl) (congrArg (Value.int .i64) (wrap_i64 (by omega) (by omega))) ?_
    refine ops_run 1 (by kernel_rfl) ?_
    refine ops_call (pre := [viewA (ptr b) img ((vwrite img l (at_ + 0) x_.k).2)]) hs15 (by kernel_rfl) (sset_spec (b := b) (img := img) (l := (vwrite img l (at_ + 0) x_.k).2) (at_ := (at_ + 1)) (x_ := x_.l) B _) ?_
    rintro _ _ w25 ⟨rfl, rfl⟩ hs26
    have hs27 : St B w l0 w25 [viewA (ptr b) img ((vwrite img ((vwrite img l (at_ + 0) x_.k).2) (at_ + 1) x_.l).2), blk b4 (.cells [(.int .u64 x_.k), (.int .u64 x_.l), (.int .u64 x_.o), (.int .u64 x_.s), (.int .u64 x_.a), (.int .u64 x_.b), (.int .u64 x_.c), (.int .u64 x_.d), (.int .u64 x_.e), (.int .u64 x_.m)].toArray 103 (0, 0))] := hs26
    refine ops_run 1 (by kernel_rfl) ?_
    refine ops_done (by kernel_rfl) ?_
    refine hK24 _ _ ?_
    clear hK24
    refine W.seq fun K28 hK28 => ?_
    refine W.region ?_
    refine ops_run 2 (by kernel_rfl) ?_
    refine ops_done (by kernel_rfl) ?_
    refine hK28 _ _ ?_
    clear hK28
    refine W.cond (!decide ((vwrite img ((vwrite img l (at_ + 0) x_.k).2) (at_ + 1) x_.l).1 = 0)) (by kernel_rfl) (fun h29 => ?_) (fun h29 => ?_)
    ·
      have h29p : ¬ ((vwrite img ((vwrite img l (at_ + 0) x_.k).2) (at_ + 1) x_.l).1 = 0) := of_decide_eq_false (bnot_true h29)
      refine W.seq fun K30 hK30 => ?_
      refine W.region ?_
      refine ops_run 2 (by kernel_rfl) ?_
      refine ops_done (by kernel_rfl) ?_
      refine hK30 _ _ ?_
      clear hK30
      refine W.ret (ret_block (ret_seq (ret_seq (ret_block (ret_seq ?_)))))
      have hs31 : St B w l0 w25 [viewA (ptr b) img ((vwrite img ((vwrite img l (at_ + 0) x_.k).2) (at_ + 1) x_.l).2)] := St.take (H := [viewA (ptr b) img ((vwrite img ((vwrite img l (at_ + 0) x_.k).2) (at_ + 1) x_.l).2)]) hs27
      have e1_ : (vwrites img at_ l 0 x_.list).1 = (vwrite img ((vwrite img l (at_ + 0) x_.k).2) (at_ + 1) x_.l).1 := by simp only [Nd.list, vwrites, Int.reduceAdd, if_true, if_false, h17p, h29p]
      have e2_ : (vwrites img at_ l 0 x_.list).2 = (vwrite img ((vwrite img l (at_ + 0) x_.k).2) (at_ + 1) x_.l).2 := by simp only [Nd.list, vwrites, Int.reduceAdd, if_true, if_false, h17p, h29p]
      refine ret_of (.int .i64 ((vwrite img ((vwrite img l (at_ + 0) x_.k).2) (at_ + 1) x_.l).1)) (by kernel_rfl) ⟨_, ⟨by rw [e1_], by rw [e2_]⟩, hs31⟩
    ·
      have h29p : (vwrite img ((vwrite img l (at_ + 0) x_.k).2) (at_ + 1) x_.l).1 = 0 := of_decide_eq_true (bnot_false h29)
      refine W.skip ?_
      refine normal_block ?_
      refine hK22 _ _ ?_
      clear hK22
      refine W.region ?_
      refine ops_run 2 (by kernel_rfl) ?_
      refine ops_done (by kernel_rfl) ?_
      refine loopAt_next ?_
      refine loopAt_round ?_
      refine W.seq fun K32 hK32 => ?_
      refine W.region ?_
      refine ops_run 1 (by kernel_rfl) ?_
      refine ops_done (by kernel_rfl) ?_
      refine hK32 _ _ ?_
      clear hK32
      refine W.seq fun K33 hK33 => ?_
      refine W.cond_true true (by kernel_rfl) rfl ?_
      refine W.skip ?_
      refine hK33 _ _ ?_
      clear hK33
      refine W.seq fun K34 hK34 => ?_
      refine W.block ?_
      refine W.seq fun K35 hK35 => ?_
      refine W.region ?_
      refine ops_run 4 (by kernel_rfl) ?_
      refine ops_done (by kernel_rfl) ?_
      refine hK35 _ _ ?_
      clear hK35
      refine W.seq fun K36 hK36 => ?_
      refine W.region ?_
      refine ops_run 3 (by kernel_rfl) ?_
      refine ops_val (v := .int .i64 (IntKind.i64.wrap (at_ + 2))) (v' := .int .i64 (at_ + 2)) (by kernel_rfl) (congrArg (Value.int .i64) (wrap_i64 (by omega) (by omega))) ?_
      refine ops_run 1 (by kernel_rfl) ?_
      refine ops_call (pre := [viewA (ptr b) img ((vwrite img ((vwrite img l (at_ + 0) x_.k).2) (at_ + 1) x_.l).2)]) hs27 (by kernel_rfl) (sset_spec (b := b) (img := img) (l := (vwrite img ((vwrite img l (at_ + 0) x_.k).2) (at_ + 1) x_.l).2) (at_ := (at_ + 2)) (x_ := x_.o) B _) ?_
      rintro _ _ w37 ⟨rfl, rfl⟩ hs38
      have hs39 : St B w l0 w37 [viewA (ptr b) img ((vwrite img ((vwrite img ((vwrite img l (at_ + 0) x_.k).2) (at_ + 1) x_.l).2) (at_ + 2) x_.o).2), blk b4 (.cells [(.int .u64 x_.k), (.int .u64 x_.l), (.int .u64 x_.o), (.int .u64 x_.s), (.int .u64 x_.a), (.int .u64 x_.b), (.int .u64 x_.c), (.int .u64 x_.d), (.int .u64 x_.e), (.int .u64 x_.m)].toArray 103 (0, 0))] := hs38
      refine ops_run 1 (by kernel_rfl) ?_
      refine ops_done (by kernel_rfl) ?_
      refine hK36 _ _ ?_
      clear hK36
      refine W.seq fun K40 hK40 => ?_
      refine W.region ?_
      refine ops_run 2 (by kernel_rfl) ?_
      refine ops_done (by kernel_rfl) ?_
      refine hK40 _ _ ?_
      clear hK40
      refine W.cond (!decide ((vwrite img ((vwrite img ((vwrite img l (at_ + 0) x_.k).2) (at_ + 1) x_.l).2) (at_ + 2) x_.o).1 = 0)) (by kernel_rfl) (fun h41 => ?_) (fun h41 => ?_)
      ·
        have h41p : ¬ ((vwrite img ((vwrite img ((vwrite img l (at_ + 0) x_.k).2) (at_ + 1) x_.l).2) (at_ + 2) x_.o).1 = 0) := of_decide_eq_false (bnot_true h41)
        refine W.seq fun K42 hK42 => ?_
        refine W.region ?_
        refine ops_run 2 (by kernel_rfl) ?_
        refine ops_done (by kernel_rfl) ?_
        refine hK42 _ _ ?_
        clear hK42
        refine W.ret (ret_block (ret_seq (ret_seq (ret_block (ret_seq ?_)))))
        have hs43 : St B w l0 w37 [viewA (ptr b) img ((vwrite img ((vwrite img ((vwrite img l (at_ + 0) x_.k).2) (at_ + 1) x_.l).2) (at_ + 2) x_.o).2)] := St.take (H := [viewA (ptr b) img ((vwrite img ((vwrite img ((vwrite img l (at_ + 0) x_.k).2) (at_ + 1) x_.l).2) (at_ + 2) x_.o).2)]) hs39
        have e1_ : (vwrites img at_ l 0 x_.list).1 = (vwrite img ((vwrite img ((vwrite img l (at_ + 0) x_.k).2) (at_ + 1) x_.l).2) (at_ + 2) x_.o).1 := by simp only [Nd.list, vwrites, Int.reduceAdd, if_true, if_false, h17p, h29p, h41p]
        have e2_ : (vwrites img at_ l 0 x_.list).2 = (vwrite img ((vwrite img ((vwrite img l (at_ + 0) x_.k).2) (at_ + 1) x_.l).2) (at_ + 2) x_.o).2 := by simp only [Nd.list, vwrites, Int.reduceAdd, if_true, if_false, h17p, h29p, h41p]
        refine ret_of (.int .i64 ((vwrite img ((vwrite img ((vwrite img l (at_ + 0) x_.k).2) (at_ + 1) x_.l).2) (at_ + 2) x_.o).1)) (by kernel_rfl) ⟨_, ⟨by rw [e1_], by rw [e2_]⟩, hs43⟩
      ·
        have h41p : (vwrite img ((vwrite img ((vwrite img l (at_ + 0) x_.k).2) (at_ + 1) x_.l).2) (at_ + 2) x_.o).1 = 0 := of_decide_eq_true (bnot_false h41)
        refine W.skip ?_
        refine normal_block ?_
        refine hK34 _ _ ?_
        clear hK34
        refine W.region ?_
        refine ops_run 2 (by kernel_rfl) ?_
        refine ops_done (by kernel_rfl) ?_
        refine loopAt_next ?_
        refine loopAt_round ?_
        refine W.seq fun K44 hK44 => ?_
        refine W.region ?_
        refine ops_run 1 (by kernel_rfl) ?_
        refine ops_done (by kernel_rfl) ?_
        refine hK44 _ _ ?_
        clear hK44
        refine W.seq fun K45 hK45 => ?_
        refine W.cond_true true (by kernel_rfl) rfl ?_
        refine W.skip ?_
        refine hK45 _ _ ?_
        clear hK45
        refine W.seq fun K46 hK46 => ?_
        refine W.block ?_
        refine W.seq fun K47 hK47 => ?_
        refine W.region ?_
        refine ops_run 4 (by kernel_rfl) ?_
        refine ops_done (by kernel_rfl) ?_
        refine hK47 _ _ ?_
        clear hK47
        refine W.seq fun K48 hK48 => ?_
        refine W.region ?_
        refine ops_run 3 (by kernel_rfl) ?_
        refine ops_val (v := .int .i64 (IntKind.i64.wrap (at_ + 3))) (v' := .int .i64 (at_ + 3)) (by kernel_rfl) (congrArg (Value.int .i64) (wrap_i64 (by omega) (by omega))) ?_
        refine ops_run 1 (by kernel_rfl) ?_
        refine ops_call (pre := [viewA (ptr b) img ((vwrite img ((vwrite img ((vwrite img l (at_ + 0) x_.k).2) (at_ + 1) x_.l).2) (at_ + 2) x_.o).2)]) hs39 (by kernel_rfl) (sset_spec (b := b) (img := img) (l := (vwrite img ((vwrite img ((vwrite img l (at_ + 0) x_.k).2) (at_ + 1) x_.l).2) (at_ + 2) x_.o).2) (at_ := (at_ + 3)) (x_ := x_.s) B _) ?_
        rintro _ _ w49 ⟨rfl, rfl⟩ hs50
        have hs51 : St B w l0 w49 [viewA (ptr b) img ((vwrite img ((vwrite img ((vwrite img ((vwrite img l (at_ + 0) x_.k).2) (at_ + 1) x_.l).2) (at_ + 2) x_.o).2) (at_ + 3) x_.s).2), blk b4 (.cells [(.int .u64 x_.k), (.int .u64 x_.l), (.int .u64 x_.o), (.int .u64 x_.s), (.int .u64 x_.a), (.int .u64 x_.b), (.int .u64 x_.c), (.int .u64 x_.d), (.int .u64 x_.e), (.int .u64 x_.m)].toArray 103 (0, 0))] := hs50
        refine ops_run 1 (by kernel_rfl) ?_
        refine ops_done (by kernel_rfl) ?_
        refine hK48 _ _ ?_
        clear hK48
        refine W.seq fun K52 hK52 => ?_
        refine W.region ?_
        refine ops_run 2 (by kernel_rfl) ?_
        refine ops_done (by kernel_rfl) ?_
        refine hK52 _ _ ?_
        clear hK52
        refine W.cond (!decide ((vwrite img ((vwrite img ((vwrite img ((vwrite img l (at_ + 0) x_.k).2) (at_ + 1) x_.l).2) (at_ + 2) x_.o).2) (at_ + 3) x_.s).1 = 0)) (by kernel_rfl) (fun h53 => ?_) (fun h53 => ?_)
        ·
          have h53p : ¬ ((vwrite img ((vwrite img ((vwrite img ((vwrite img l (at_ + 0) x_.k).2) (at_ + 1) x_.l).2) (at_ + 2) x_.o).2) (at_ + 3) x_.s).1 = 0) := of_decide_eq_false (bnot_true h53)
          refine W.seq fun K54 hK54 => ?_
          refine W.region ?_
          refine ops_run 2 (by kernel_rfl) ?_
          refine ops_done (by kernel_rfl) ?_
          refine hK54 _ _ ?_
          clear hK54
          refine W.ret (ret_block (ret_seq (ret_seq (ret_block (ret_seq ?_)))))
          have hs55 : St B w l0 w49 [viewA (ptr b) img ((vwrite img ((vwrite img ((vwrite img ((vwrite img l (at_ + 0) x_.k).2) (at_ + 1) x_.l).2) (at_ + 2) x_.o).2) (at_ + 3) x_.s).2)] := St.take (H := [viewA (ptr b) img ((vwrite img ((vwrite img ((vwrite img ((vwrite img l (at_ + 0) x_.k).2) (at_ + 1) x_.l).2) (at_ + 2) x_.o).2) (at_ + 3) x_.s).2)]) hs51
          have e1_ : (vwrites img at_ l 0 x_.list).1 = (vwrite img ((vwrite img ((vwrite img ((vwrite img l (at_ + 0) x_.k).2) (at_ + 1) x_.l).2) (at_ + 2) x_.o).2) (at_ + 3) x_.s).1 := by simp only [Nd.list, vwrites, Int.reduceAdd, if_true, if_false, h17p, h29p, h41p, h53p]
          have e2_ : (vwrites img at_ l 0 x_.list).2 = (vwrite img ((vwrite img ((vwrite img ((vwrite img l (at_ + 0) x_.k).2) (at_ + 1) x_.l).2) (at_ + 2) x_.o).2) (at_ + 3) x_.s).2 := by simp only [Nd.list, vwrites, Int.reduceAdd, if_true, if_false, h17p, h29p, h41p, h53p]
          refine ret_of (.int .i64 ((vwrite img ((vwrite img ((vwrite img ((vwrite img l (at_ + 0) x_.k).2) (at_ + 1) x_.l).2) (at_ + 2) x_.o).2) (at_ + 3) x_.s).1)) (by kernel_rfl) ⟨_, ⟨by rw [e1_], by rw [e2_]⟩, hs55⟩
        ·
          have h53p : (vwrite img ((vwrite img ((vwrite img ((vwrite img l (at_ + 0) x_.k).2) (at_ + 1) x_.l).2) (at_ + 2) x_.o).2) (at_ + 3) x_.s).1 = 0 := of_decide_eq_true (bnot_false h53)
          refine W.skip ?_
          refine normal_block ?_
          refine hK46 _ _ ?_
          clear hK46
          refine W.region ?_
          refine ops_run 2 (by kernel_rfl) ?_
          refine ops_done (by kernel_rfl) ?_
          refine loopAt_next ?_
          refine loopAt_round ?_
          refine W.seq fun K56 hK56 => ?_
          refine W.region ?_
          refine ops_run 1 (by kernel_rfl) ?_
          refine ops_done (by kernel_rfl) ?_
          refine hK56 _ _ ?_
          clear hK56
          refine W.seq fun K57 hK57 => ?_
          refine W.cond_true true (by kernel_rfl) rfl ?_
          refine W.skip ?_
          refine hK57 _ _ ?_
          clear hK57
          refine W.seq fun K58 hK58 => ?_
          refine W.block ?_
          refine W.seq fun K59 hK59 => ?_
          refine W.region ?_
          refine ops_run 4 (by kernel_rfl) ?_
          refine ops_done (by kernel_rfl) ?_
          refine hK59 _ _ ?_
          clear hK59
          refine W.seq fun K60 hK60 => ?_
          refine W.region ?_
          refine ops_run 3 (by kernel_rfl) ?_
          refine ops_val (v := .int .i64 (IntKind.i64.wrap (at_ + 4))) (v' := .int .i64 (at_ + 4)) (by kernel_rfl) (congrArg (Value.int .i64) (wrap_i64 (by omega) (by omega))) ?_
          refine ops_run 1 (by kernel_rfl) ?_
          refine ops_call (pre := [viewA (ptr b) img ((vwrite img ((vwrite img ((vwrite img ((vwrite img l (at_ + 0) x_.k).2) (at_ + 1) x_.l).2) (at_ + 2) x_.o).2) (at_ + 3) x_.s).2)]) hs51 (by kernel_rfl) (sset_spec (b := b) (img := img) (l := (vwrite img ((vwrite img ((vwrite img ((vwrite img l (at_ + 0) x_.k).2) (at_ + 1) x_.l).2) (at_ + 2) x_.o).2) (at_ + 3) x_.s).2) (at_ := (at_ + 4)) (x_ := x_.a) B _) ?_
          rintro _ _ w61 ⟨rfl, rfl⟩ hs62
          have hs63 : St B w l0 w61 [viewA (ptr b) img ((vwrite img ((vwrite img ((vwrite img ((vwrite img ((vwrite img l (at_ + 0) x_.k).2) (at_ + 1) x_.l).2) (at_ + 2) x_.o).2) (at_ + 3) x_.s).2) (at_ + 4) x_.a).2), blk b4 (.cells [(.int .u64 x_.k), (.int .u64 x_.l), (.int .u64 x_.o), (.int .u64 x_.s), (.int .u64 x_.a), (.int .u64 x_.b), (.int .u64 x_.c), (.int .u64 x_.d), (.int .u64 x_.e), (.int .u64 x_.m)].toArray 103 (0, 0))] := hs62
          refine ops_run 1 (by kernel_rfl) ?_
          refine ops_done (by kernel_rfl) ?_
          refine hK60 _ _ ?_
          clear hK60
          refine W.seq fun K64 hK64 => ?_
          refine W.region ?_
          refine ops_run 2 (by kernel_rfl) ?_
          refine ops_done (by kernel_rfl) ?_
          refine hK64 _ _ ?_
          clear hK64
          refine W.cond (!decide ((vwrite img ((vwrite img ((vwrite img ((vwrite img ((vwrite img l (at_ + 0) x_.k).2) (at_ + 1) x_.l).2) (at_ + 2) x_.o).2) (at_ + 3) x_.s).2) (at_ + 4) x_.a).1 = 0)) (by kernel_rfl) (fun h65 => ?_) (fun h65 => ?_)
          ·
            have h65p : ¬ ((vwrite img ((vwrite img ((vwrite img ((vwrite img ((vwrite img l (at_ + 0) x_.k).2) (at_ + 1) x_.l).2) (at_ + 2) x_.o).2) (at_ + 3) x_.s).2) (at_ + 4) x_.a).1 = 0) := of_decide_eq_false (bnot_true h65)
            refine W.seq fun K66 hK66 => ?_
            refine W.region ?_
            refine ops_run 2 (by kernel_rfl) ?_
            refine ops_done (by kernel_rfl) ?_
            refine hK66 _ _ ?_
            clear hK66
            refine W.ret (ret_block (ret_seq (ret_seq (ret_block (ret_seq ?_)))))
            have hs67 : St B w l0 w61 [viewA (ptr b) img ((vwrite img ((vwrite img ((vwrite img ((vwrite img ((vwrite img l (at_ + 0) x_.k).2) (at_ + 1) x_.l).2) (at_ + 2) x_.o).2) (at_ + 3) x_.s).2) (at_ + 4) x_.a).2)] := St.take (H := [viewA (ptr b) img ((vwrite img ((vwrite img ((vwrite img ((vwrite img ((vwrite img l (at_ + 0) x_.k).2) (at_ + 1) x_.l).2) (at_ + 2) x_.o).2) (at_ + 3) x_.s).2) (at_ + 4) x_.a).2)]) hs63
            have e1_ : (vwrites img at_ l 0 x_.list).1 = (vwrite img ((vwrite img ((vwrite img ((vwrite img ((vwrite img l (at_ + 0) x_.k).2) (at_ + 1) x_.l).2) (at_ + 2) x_.o).2) (at_ + 3) x_.s).2) (at_ + 4) x_.a).1 := by simp only [Nd.list, vwrites, Int.reduceAdd, if_true, if_false, h17p, h29p, h41p, h53p, h65p]
            have e2_ : (vwrites img at_ l 0 x_.list).2 = (vwrite img ((vwrite img ((vwrite img ((vwrite img ((vwrite img l (at_ + 0) x_.k).2) (at_ + 1) x_.l).2) (at_ + 2) x_.o).2) (at_ + 3) x_.s).2) (at_ + 4) x_.a).2 := by simp only [Nd.list, vwrites, Int.reduceAdd, if_true, if_false, h17p, h29p, h41p, h53p, h65p]
            refine ret_of (.int .i64 ((vwrite img ((vwrite img ((vwrite img ((vwrite img ((vwrite img l (at_ + 0) x_.k).2) (at_ + 1) x_.l).2) (at_ + 2) x_.o).2) (at_ + 3) x_.s).2) (at_ + 4) x_.a).1)) (by kernel_rfl) ⟨_, ⟨by rw [e1_], by rw [e2_]⟩, hs67⟩
          ·
            have h65p : (vwrite img ((vwrite img ((vwrite img ((vwrite img ((vwrite img l (at_ + 0) x_.k).2) (at_ + 1) x_.l).2) (at_ + 2) x_.o).2) (at_ + 3) x_.s).2) (at_ + 4) x_.a).1 = 0 := of_decide_eq_true (bnot_false h65)
            refine W.skip ?_
            refine normal_block ?_
            refine hK58 _ _ ?_
            clear hK58
            refine W.region ?_
            refine ops_run 2 (by kernel_rfl) ?_
            refine ops_done (by kernel_rfl) ?_
            refine loopAt_next ?_
            refine loopAt_round ?_
            refine W.seq fun K68 hK68 => ?_
            refine W.region ?_
            refine ops_run 1 (by kernel_rfl) ?_
            refine ops_done (by kernel_rfl) ?_
            refine hK68 _ _ ?_
            clear hK68
            refine W.seq fun K69 hK69 => ?_
            refine W.cond_true true (by kernel_rfl) rfl ?_
            refine W.skip ?_
            refine hK69 _ _ ?_
            clear hK69
            refine W.seq fun K70 hK70 => ?_
            refine W.block ?_
            refine W.seq fun K71 hK71 => ?_
            refine W.region ?_
            refine ops_run 4 (by kernel_rfl) ?_
            refine ops_done (by kernel_rfl) ?_
            refine hK71 _ _ ?_
            clear hK71
            refine W.seq fun K72 hK72 => ?_
            refine W.region ?_
            refine ops_run 3 (by kernel_rfl) ?_
            refine ops_val (v := .int .i64 (IntKind.i64.wrap (at_ + 5))) (v' := .int .i64 (at_ + 5)) (by kernel_rfl) (congrArg (Value.int .i64) (wrap_i64 (by omega) (by omega))) ?_
            refine ops_run 1 (by kernel_rfl) ?_
            refine ops_call (pre := [viewA (ptr b) img ((vwrite img ((vwrite img ((vwrite img ((vwrite img ((vwrite img l (at_ + 0) x_.k).2) (at_ + 1) x_.l).2) (at_ + 2) x_.o).2) (at_ + 3) x_.s).2) (at_ + 4) x_.a).2)]) hs63 (by kernel_rfl) (sset_spec (b := b) (img := img) (l := (vwrite img ((vwrite img ((vwrite img ((vwrite img ((vwrite img l (at_ + 0) x_.k).2) (at_ + 1) x_.l).2) (at_ + 2) x_.o).2) (at_ + 3) x_.s).2) (at_ + 4) x_.a).2) (at_ := (at_ + 5)) (x_ := x_.b) B _) ?_
            rintro _ _ w73 ⟨rfl, rfl⟩ hs74
            have hs75 : St B w l0 w73 [viewA (ptr b) img ((vwrite img ((vwrite img ((vwrite img ((vwrite img ((vwrite img ((vwrite img l (at_ + 0) x_.k).2) (at_ + 1) x_.l).2) (at_ + 2) x_.o).2) (at_ + 3) x_.s).2) (at_ + 4) x_.a).2) (at_ + 5) x_.b).2), blk b4 (.cells [(.int .u64 x_.k), (.int .u64 x_.l), (.int .u64 x_.o), (.int .u64 x_.s), (.int .u64 x_.a), (.int .u64 x_.b), (.int .u64 x_.c), (.int .u64 x_.d), (.int .u64 x_.e), (.int .u64 x_.m)].toArray 103 (0, 0))] := hs74
            refine ops_run 1 (by kernel_rfl) ?_
            refine ops_done (by kernel_rfl) ?_
            refine hK72 _ _ ?_
            clear hK72
            refine W.seq fun K76 hK76 => ?_
            refine W.region ?_
            refine ops_run 2 (by kernel_rfl) ?_
            refine ops_done (by kernel_rfl) ?_
            refine hK76 _ _ ?_
            clear hK76
            refine W.cond (!decide ((vwrite img ((vwrite img ((vwrite img ((vwrite img ((vwrite img ((vwrite img l (at_ + 0) x_.k).2) (at_ + 1) x_.l).2) (at_ + 2) x_.o).2) (at_ + 3) x_.s).2) (at_ + 4) x_.a).2) (at_ + 5) x_.b).1 = 0)) (by kernel_rfl) (fun h77 => ?_) (fun h77 => ?_)
            ·
              have h77p : ¬ ((vwrite img ((vwrite img ((vwrite img ((vwrite img ((vwrite img ((vwrite img l (at_ + 0) x_.k).2) (at_ + 1) x_.l).2) (at_ + 2) x_.o).2) (at_ + 3) x_.s).2) (at_ + 4) x_.a).2) (at_ + 5) x_.b).1 = 0) := of_decide_eq_false (bnot_true h77)
              refine W.seq fun K78 hK78 => ?_
              refine W.region ?_
              refine ops_run 2 (by kernel_rfl) ?_
              refine ops_done (by kernel_rfl) ?_
              refine hK78 _ _ ?_
              clear hK78
              refine W.ret (ret_block (ret_seq (ret_seq (ret_block (ret_seq ?_)))))
              have hs79 : St B w l0 w73 [viewA (ptr b) img ((vwrite img ((vwrite img ((vwrite img ((vwrite img ((vwrite img ((vwrite img l (at_ + 0) x_.k).2) (at_ + 1) x_.l).2) (at_ + 2) x_.o).2) (at_ + 3) x_.s).2) (at_ + 4) x_.a).2) (at_ + 5) x_.b).2)] := St.take (H := [viewA (ptr b) img ((vwrite img ((vwrite img ((vwrite img ((vwrite img ((vwrite img ((vwrite img l (at_ + 0) x_.k).2) (at_ + 1) x_.l).2) (at_ + 2) x_.o).2) (at_ + 3) x_.s).2) (at_ + 4) x_.a).2) (at_ + 5) x_.b).2)]) hs75
              have e1_ : (vwrites img at_ l 0 x_.list).1 = (vwrite img ((vwrite img ((vwrite img ((vwrite img ((vwrite img ((vwrite img l (at_ + 0) x_.k).2) (at_ + 1) x_.l).2) (at_ + 2) x_.o).2) (at_ + 3) x_.s).2) (at_ + 4) x_.a).2) (at_ + 5) x_.b).1 := by simp only [Nd.list, vwrites, Int.reduceAdd, if_true, if_false, h17p, h29p, h41p, h53p, h65p, h77p]
              have e2_ : (vwrites img at_ l 0 x_.list).2 = (vwrite img ((vwrite img ((vwrite img ((vwrite img ((vwrite img ((vwrite img l (at_ + 0) x_.k).2) (at_ + 1) x_.l).2) (at_ + 2) x_.o).2) (at_ + 3) x_.s).2) (at_ + 4) x_.a).2) (at_ + 5) x_.b).2 := by simp only [Nd.list, vwrites, Int.reduceAdd, if_true, if_false, h17p, h29p, h41p, h53p, h65p, h77p]
              refine ret_of (.int .i64 ((vwrite img ((vwrite img ((vwrite img ((vwrite img ((vwrite img ((vwrite img l (at_ + 0) x_.k).2) (at_ + 1) x_.l).2) (at_ + 2) x_.o).2) (at_ + 3) x_.s).2) (at_ + 4) x_.a).2) (at_ + 5) x_.b).1)) (by kernel_rfl) ⟨_, ⟨by rw [e1_], by rw [e2_]⟩, hs79⟩
            ·
              have h77p : (vwrite img ((vwrite img ((vwrite img ((vwrite img ((vwrite img ((vwrite img l (at_ + 0) x_.k).2) (at_ + 1) x_.l).2) (at_ + 2) x_.o).2) (at_ + 3) x_.s).2) (at_ + 4) x_.a).2) (at_ + 5) x_.b).1 = 0 := of_decide_eq_true (bnot_false h77)
              refine W.skip ?_
              refine normal_block ?_
              refine hK70 _ _ ?_
              clear hK70
              refine W.region ?_
              refine ops_run 2 (by kernel_rfl) ?_
              refine ops_done (by kernel_rfl) ?_
              refine loopAt_next ?_
              refine loopAt_round ?_
              refine W.seq fun K80 hK80 => ?_
              refine W.region ?_
              refine ops_run 1 (by kernel_rfl) ?_
              refine ops_done (by kernel_rfl) ?_
              refine hK80 _ _ ?_
              clear hK80
              refine W.seq fun K81 hK81 => ?_
              refine W.cond_true true (by kernel_rfl) rfl ?_
              refine W.skip ?_
              refine hK81 _ _ ?_
              clear hK81
              refine W.seq fun K82 hK82 => ?_
              refine W.block ?_
              refine W.seq fun K83 hK83 => ?_
              refine W.region ?_
              refine ops_run 4 (by kernel_rfl) ?_
              refine ops_done (by kernel_rfl) ?_
              refine hK83 _ _ ?_
              clear hK83
              refine W.seq fun K84 hK84 => ?_
              refine W.region ?_
              refine ops_run 3 (by kernel_rfl) ?_
              refine ops_val (v := .int .i64 (IntKind.i64.wrap (at_ + 6))) (v' := .int .i64 (at_ + 6)) (by kernel_rfl) (congrArg (Value.int .i64) (wrap_i64 (by omega) (by omega))) ?_
              refine ops_run 1 (by kernel_rfl) ?_
              refine ops_call (pre := [viewA (ptr b) img ((vwrite img ((vwrite img ((vwrite img ((vwrite img ((vwrite img ((vwrite img l (at_ + 0) x_.k).2) (at_ + 1) x_.l).2) (at_ + 2) x_.o).2) (at_ + 3) x_.s).2) (at_ + 4) x_.a).2) (at_ + 5) x_.b).2)]) hs75 (by kernel_rfl) (sset_spec (b := b) (img := img) (l := (vwrite img ((vwrite img ((vwrite img ((vwrite img ((vwrite img ((vwrite img l (at_ + 0) x_.k).2) (at_ + 1) x_.l).2) (at_ + 2) x_.o).2) (at_ + 3) x_.s).2) (at_ + 4) x_.a).2) (at_ + 5) x_.b).2) (at_ := (at_ + 6)) (x_ := x_.c) B _) ?_
              rintro _ _ w85 ⟨rfl, rfl⟩ hs86
              have hs87 : St B w l0 w85 [viewA (ptr b) img ((vwrite img ((vwrite img ((vwrite img ((vwrite img ((vwrite img ((vwrite img ((vwrite img l (at_ + 0) x_.k).2) (at_ + 1) x_.l).2) (at_ + 2) x_.o).2) (at_ + 3) x_.s).2) (at_ + 4) x_.a).2) (at_ + 5) x_.b).2) (at_ + 6) x_.c).2), blk b4 (.cells [(.int .u64 x_.k), (.int .u64 x_.l), (.int .u64 x_.o), (.int .u64 x_.s), (.int .u64 x_.a), (.int .u64 x_.b), (.int .u64 x_.c), (.int .u64 x_.d), (.int .u64 x_.e), (.int .u64 x_.m)].toArray 103 (0, 0))] := hs86
              refine ops_run 1 (by kernel_rfl) ?_
              refine ops_done (by kernel_rfl) ?_
              refine hK84 _ _ ?_
              clear hK84
              refine W.seq fun K88 hK88 => ?_
              refine W.region ?_
              refine ops_run 2 (by kernel_rfl) ?_
              refine ops_done (by kernel_rfl) ?_
              refine hK88 _ _ ?_
              clear hK88
              refine W.cond (!decide ((vwrite img ((vwrite img ((vwrite img ((vwrite img ((vwrite img ((vwrite img ((vwrite img l (at_ + 0) x_.k).2) (at_ + 1) x_.l).2) (at_ + 2) x_.o).2) (at_ + 3) x_.s).2) (at_ + 4) x_.a).2) (at_ + 5) x_.b).2) (at_ + 6) x_.c).1 = 0)) (by kernel_rfl) (fun h89 => ?_) (fun h89 => ?_)
              ·
                have h89p : ¬ ((vwrite img ((vwrite img ((vwrite img ((vwrite img ((vwrite img ((vwrite img ((vwrite img l (at_ + 0) x_.k).2) (at_ + 1) x_.l).2) (at_ + 2) x_.o).2) (at_ + 3) x_.s).2) (at_ + 4) x_.a).2) (at_ + 5) x_.b).2) (at_ + 6) x_.c).1 = 0) := of_decide_eq_false (bnot_true h89)
                refine W.seq fun K90 hK90 => ?_
                refine W.region ?_
                refine ops_run 2 (by kernel_rfl) ?_
                refine ops_done (by kernel_rfl) ?_
                refine hK90 _ _ ?_
                clear hK90
                refine W.ret (ret_block (ret_seq (ret_seq (ret_block (ret_seq ?_)))))
                have hs91 : St B w l0 w85 [viewA (ptr b) img ((vwrite img ((vwrite img ((vwrite img ((vwrite img ((vwrite img ((vwrite img ((vwrite img l (at_ + 0) x_.k).2) (at_ + 1) x_.l).2) (at_ + 2) x_.o).2) (at_ + 3) x_.s).2) (at_ + 4) x_.a).2) (at_ + 5) x_.b).2) (at_ + 6) x_.c).2)] := St.take (H := [viewA (ptr b) img ((vwrite img ((vwrite img ((vwrite img ((vwrite img ((vwrite img ((vwrite img ((vwrite img l (at_ + 0) x_.k).2) (at_ + 1) x_.l).2) (at_ + 2) x_.o).2) (at_ + 3) x_.s).2) (at_ + 4) x_.a).2) (at_ + 5) x_.b).2) (at_ + 6) x_.c).2)]) hs87
                have e1_ : (vwrites img at_ l 0 x_.list).1 = (vwrite img ((vwrite img ((vwrite img ((vwrite img ((vwrite img ((vwrite img ((vwrite img l (at_ + 0) x_.k).2) (at_ + 1) x_.l).2) (at_ + 2) x_.o).2) (at_ + 3) x_.s).2) (at_ + 4) x_.a).2) (at_ + 5) x_.b).2) (at_ + 6) x_.c).1 := by simp only [Nd.list, vwrites, Int.reduceAdd, if_true, if_false, h17p, h29p, h41p, h53p, h65p, h77p, h89p]
                have e2_ : (vwrites img at_ l 0 x_.list).2 = (vwrite img ((vwrite img ((vwrite img ((vwrite img ((vwrite img ((vwrite img ((vwrite img l (at_ + 0) x_.k).2) (at_ + 1) x_.l).2) (at_ + 2) x_.o).2) (at_ + 3) x_.s).2) (at_ + 4) x_.a).2) (at_ + 5) x_.b).2) (at_ + 6) x_.c).2 := by simp only [Nd.list, vwrites, Int.reduceAdd, if_true, if_false, h17p, h29p, h41p, h53p, h65p, h77p, h89p]
                refine ret_of (.int .i64 ((vwrite img ((vwrite img ((vwrite img ((vwrite img ((vwrite img ((vwrite img ((vwrite img l (at_ + 0) x_.k).2) (at_ + 1) x_.l).2) (at_ + 2) x_.o).2) (at_ + 3) x_.s).2) (at_ + 4) x_.a).2) (at_ + 5) x_.b).2) (at_ + 6) x_.c).1)) (by kernel_rfl) ⟨_, ⟨by rw [e1_], by rw [e2_]⟩, hs91⟩
              ·
                have h89p : (vwrite img ((vwrite img ((vwrite img ((vwrite img ((vwrite img ((vwrite img ((vwrite img l (at_ + 0) x_.k).2) (at_ + 1) x_.l).2) (at_ + 2) x_.o).2) (at_ + 3) x_.s).2) (at_ + 4) x_.a).2) (at_ + 5) x_.b).2) (at_ + 6) x_.c).1 = 0 := of_decide_eq_true (bnot_false h89)
                refine W.skip ?_
                refine normal_block ?_
                refine hK82 _ _ ?_
                clear hK82
                refine W.region ?_
                refine ops_run 2 (by kernel_rfl) ?_
                refine ops_done (by kernel_rfl) ?_
                refine loopAt_next ?_
                refine loopAt_round ?_
                refine W.seq fun K92 hK92 => ?_
                refine W.region ?_
                refine ops_run 1 (by kernel_rfl) ?_
                refine ops_done (by kernel_rfl) ?_
                refine hK92 _ _ ?_
                clear hK92
                refine W.seq fun K93 hK93 => ?_
                refine W.cond_true true (by kernel_rfl) rfl ?_
                refine W.skip ?_
                refine hK93 _ _ ?_
                clear hK93
                refine W.seq fun K94 hK94 => ?_
                refine W.block ?_
                refine W.seq fun K95 hK95 => ?_
                refine W.region ?_
                refine ops_run 4 (by kernel_rfl) ?_
                refine ops_done (by kernel_rfl) ?_
                refine hK95 _ _ ?_
                clear hK95
                refine W.seq fun K96 hK96 => ?_
                refine W.region ?_
                refine ops_run 3 (by kernel_rfl) ?_
                refine ops_val (v := .int .i64 (IntKind.i64.wrap (at_ + 7))) (v' := .int .i64 (at_ + 7)) (by kernel_rfl) (congrArg (Value.int .i64) (wrap_i64 (by omega) (by omega))) ?_
                refine ops_run 1 (by kernel_rfl) ?_
                refine ops_call (pre := [viewA (ptr b) img ((vwrite img ((vwrite img ((vwrite img ((vwrite img ((vwrite img ((vwrite img ((vwrite img l (at_ + 0) x_.k).2) (at_ + 1) x_.l).2) (at_ + 2) x_.o).2) (at_ + 3) x_.s).2) (at_ + 4) x_.a).2) (at_ + 5) x_.b).2) (at_ + 6) x_.c).2)]) hs87 (by kernel_rfl) (sset_spec (b := b) (img := img) (l := (vwrite img ((vwrite img ((vwrite img ((vwrite img ((vwrite img ((vwrite img ((vwrite img l (at_ + 0) x_.k).2) (at_ + 1) x_.l).2) (at_ + 2) x_.o).2) (at_ + 3) x_.s).2) (at_ + 4) x_.a).2) (at_ + 5) x_.b).2) (at_ + 6) x_.c).2) (at_ := (at_ + 7)) (x_ := x_.d) B _) ?_
                rintro _ _ w97 ⟨rfl, rfl⟩ hs98
                have hs99 : St B w l0 w97 [viewA (ptr b) img ((vwrite img ((vwrite img ((vwrite img ((vwrite img ((vwrite img ((vwrite img ((vwrite img ((vwrite img l (at_ + 0) x_.k).2) (at_ + 1) x_.l).2) (at_ + 2) x_.o).2) (at_ + 3) x_.s).2) (at_ + 4) x_.a).2) (at_ + 5) x_.b).2) (at_ + 6) x_.c).2) (at_ + 7) x_.d).2), blk b4 (.cells [(.int .u64 x_.k), (.int .u64 x_.l), (.int .u64 x_.o), (.int .u64 x_.s), (.int .u64 x_.a), (.int .u64 x_.b), (.int .u64 x_.c), (.int .u64 x_.d), (.int .u64 x_.e), (.int .u64 x_.m)].toArray 103 (0, 0))] := hs98
                refine ops_run 1 (by kernel_rfl) ?_
                refine ops_done (by kernel_rfl) ?_
                refine hK96 _ _ ?_
                clear hK96
                refine W.seq fun K100 hK100 => ?_
                refine W.region ?_
                refine ops_run 2 (by kernel_rfl) ?_
                refine ops_done (by kernel_rfl) ?_
                refine hK100 _ _ ?_
                clear hK100
                refine W.cond (!decide ((vwrite img ((vwrite img ((vwrite img ((vwrite img ((vwrite img ((vwrite img ((vwrite img ((vwrite img l (at_ + 0) x_.k).2) (at_ + 1) x_.l).2) (at_ + 2) x_.o).2) (at_ + 3) x_.s).2) (at_ + 4) x_.a).2) (at_ + 5) x_.b).2) (at_ + 6) x_.c).2) (at_ + 7) x_.d).1 = 0)) (by kernel_rfl) (fun h101 => ?_) (fun h101 => ?_)
                ·
                  have h101p : ¬ ((vwrite img ((vwrite img ((vwrite img ((vwrite img ((vwrite img ((vwrite img ((vwrite img ((vwrite img l (at_ + 0) x_.k).2) (at_ + 1) x_.l).2) (at_ + 2) x_.o).2) (at_ + 3) x_.s).2) (at_ + 4) x_.a).2) (at_ + 5) x_.b).2) (at_ + 6) x_.c).2) (at_ + 7) x_.d).1 = 0) := of_decide_eq_false (bnot_true h101)
                  refine W.seq fun K102 hK102 => ?_
                  refine W.region ?_
                  refine ops_run 2 (by kernel_rfl) ?_
                  refine ops_done (by kernel_rfl) ?_
                  refine hK102 _ _ ?_
                  clear hK102
                  refine W.ret (ret_block (ret_seq (ret_seq (ret_block (ret_seq ?_)))))
                  have hs103 : St B w l0 w97 [viewA (ptr b) img ((vwrite img ((vwrite img ((vwrite img ((vwrite img ((vwrite img ((vwrite img ((vwrite img ((vwrite img l (at_ + 0) x_.k).2) (at_ + 1) x_.l).2) (at_ + 2) x_.o).2) (at_ + 3) x_.s).2) (at_ + 4) x_.a).2) (at_ + 5) x_.b).2) (at_ + 6) x_.c).2) (at_ + 7) x_.d).2)] := St.take (H := [viewA (ptr b) img ((vwrite img ((vwrite img ((vwrite img ((vwrite img ((vwrite img ((vwrite img ((vwrite img ((vwrite img l (at_ + 0) x_.k).2) (at_ + 1) x_.l).2) (at_ + 2) x_.o).2) (at_ + 3) x_.s).2) (at_ + 4) x_.a).2) (at_ + 5) x_.b).2) (at_ + 6) x_.c).2) (at_ + 7) x_.d).2)]) hs99
                  have e1_ : (vwrites img at_ l 0 x_.list).1 = (vwrite img ((vwrite img ((vwrite img ((vwrite img ((vwrite img ((vwrite img ((vwrite img ((vwrite img l (at_ + 0) x_.k).2) (at_ + 1) x_.l).2) (at_ + 2) x_.o).2) (at_ + 3) x_.s).2) (at_ + 4) x_.a).2) (at_ + 5) x_.b).2) (at_ + 6) x_.c).2) (at_ + 7) x_.d).1 := by simp only [Nd.list, vwrites, Int.reduceAdd, if_true, if_false, h17p, h29p, h41p, h53p, h65p, h77p, h89p, h101p]
                  have e2_ : (vwrites img at_ l 0 x_.list).2 = (vwrite img ((vwrite img ((vwrite img ((vwrite img ((vwrite img ((vwrite img ((vwrite img ((vwrite img l (at_ + 0) x_.k).2) (at_ + 1) x_.l).2) (at_ + 2) x_.o).2) (at_ + 3) x_.s).2) (at_ + 4) x_.a).2) (at_ + 5) x_.b).2) (at_ + 6) x_.c).2) (at_ + 7) x_.d).2 := by simp only [Nd.list, vwrites, Int.reduceAdd, if_true, if_false, h17p, h29p, h41p, h53p, h65p, h77p, h89p, h101p]
                  refine ret_of (.int .i64 ((vwrite img ((vwrite img ((vwrite img ((vwrite img ((vwrite img ((vwrite img ((vwrite img ((vwrite img l (at_ + 0) x_.k).2) (at_ + 1) x_.l).2) (at_ + 2) x_.o).2) (at_ + 3) x_.s).2) (at_ + 4) x_.a).2) (at_ + 5) x_.b).2) (at_ + 6) x_.c).2) (at_ + 7) x_.d).1)) (by kernel_rfl) ⟨_, ⟨by rw [e1_], by rw [e2_]⟩, hs103⟩
                ·
                  have h101p : (vwrite img ((vwrite img ((vwrite img ((vwrite img ((vwrite img ((vwrite img ((vwrite img ((vwrite img l (at_ + 0) x_.k).2) (at_ + 1) x_.l).2) (at_ + 2) x_.o).2) (at_ + 3) x_.s).2) (at_ + 4) x_.a).2) (at_ + 5) x_.b).2) (at_ + 6) x_.c).2) (at_ + 7) x_.d).1 = 0 := of_decide_eq_true (bnot_false h101)
                  refine W.skip ?_
                  refine normal_block ?_
                  refine hK94 _ _ ?_
                  clear hK94
                  refine W.region ?_
                  refine ops_run 2 (by kernel_rfl) ?_
                  refine ops_done (by kernel_rfl) ?_
                  refine loopAt_next ?_
                  refine loopAt_round ?_
                  refine W.seq fun K104 hK104 => ?_
                  refine W.region ?_
                  refine ops_run 1 (by kernel_rfl) ?_
                  refine ops_done (by kernel_rfl) ?_
                  refine hK104 _ _ ?_
                  clear hK104
                  refine W.seq fun K105 hK105 => ?_
                  refine W.cond_true true (by kernel_rfl) rfl ?_
                  refine W.skip ?_
                  refine hK105 _ _ ?_
                  clear hK105
                  refine W.seq fun K106 hK106 => ?_
                  refine W.block ?_
                  refine W.seq fun K107 hK107 => ?_
                  refine W.region ?_
                  refine ops_run 4 (by kernel_rfl) ?_
                  refine ops_done (by kernel_rfl) ?_
                  refine hK107 _ _ ?_
                  clear hK107
                  refine W.seq fun K108 hK108 => ?_
                  refine W.region ?_
                  refine ops_run 3 (by kernel_rfl) ?_
                  refine ops_val (v := .int .i64 (IntKind.i64.wrap (at_ + 8))) (v' := .int .i64 (at_ + 8)) (by kernel_rfl) (congrArg (Value.int .i64) (wrap_i64 (by omega) (by omega))) ?_
                  refine ops_run 1 (by kernel_rfl) ?_
                  refine ops_call (pre := [viewA (ptr b) img ((vwrite img ((vwrite img ((vwrite img ((vwrite img ((vwrite img ((vwrite img ((vwrite img ((vwrite img l (at_ + 0) x_.k).2) (at_ + 1) x_.l).2) (at_ + 2) x_.o).2) (at_ + 3) x_.s).2) (at_ + 4) x_.a).2) (at_ + 5) x_.b).2) (at_ + 6) x_.c).2) (at_ + 7) x_.d).2)]) hs99 (by kernel_rfl) (sset_spec (b := b) (img := img) (l := (vwrite img ((vwrite img ((vwrite img ((vwrite img ((vwrite img ((vwrite img ((vwrite img ((vwrite img l (at_ + 0) x_.k).2) (at_ + 1) x_.l).2) (at_ + 2) x_.o).2) (at_ + 3) x_.s).2) (at_ + 4) x_.a).2) (at_ + 5) x_.b).2) (at_ + 6) x_.c).2) (at_ + 7) x_.d).2) (at_ := (at_ + 8)) (x_ := x_.e) B _) ?_
                  rintro _ _ w109 ⟨rfl, rfl⟩ hs110
                  have hs111 : St B w l0 w109 [viewA (ptr b) img ((vwrite img ((vwrite img ((vwrite img ((vwrite img ((vwrite img ((vwrite img ((vwrite img ((vwrite img ((vwrite img l (at_ + 0) x_.k).2) (at_ + 1) x_.l).2) (at_ + 2) x_.o).2) (at_ + 3) x_.s).2) (at_ + 4) x_.a).2) (at_ + 5) x_.b).2) (at_ + 6) x_.c).2) (at_ + 7) x_.d).2) (at_ + 8) x_.e).2), blk b4 (.cells [(.int .u64 x_.k), (.int .u64 x_.l), (.int .u64 x_.o), (.int .u64 x_.s), (.int .u64 x_.a), (.int .u64 x_.b), (.int .u64 x_.c), (.int .u64 x_.d), (.int .u64 x_.e), (.int .u64 x_.m)].toArray 103 (0, 0))] := hs110
                  refine ops_run 1 (by kernel_rfl) ?_
                  refine ops_done (by kernel_rfl) ?_
                  refine hK108 _ _ ?_
                  clear hK108
                  refine W.seq fun K112 hK112 => ?_
                  refine W.region ?_
                  refine ops_run 2 (by kernel_rfl) ?_
                  refine ops_done (by kernel_rfl) ?_
                  refine hK112 _ _ ?_
                  clear hK112
                  refine W.cond (!decide ((vwrite img ((vwrite img ((vwrite img ((vwrite img ((vwrite img ((vwrite img ((vwrite img ((vwrite img ((vwrite img l (at_ + 0) x_.k).2) (at_ + 1) x_.l).2) (at_ + 2) x_.o).2) (at_ + 3) x_.s).2) (at_ + 4) x_.a).2) (at_ + 5) x_.b).2) (at_ + 6) x_.c).2) (at_ + 7) x_.d).2) (at_ + 8) x_.e).1 = 0)) (by kernel_rfl) (fun h113 => ?_) (fun h113 => ?_)
                  ·
                    have h113p : ¬ ((vwrite img ((vwrite img ((vwrite img ((vwrite img ((vwrite img ((vwrite img ((vwrite img ((vwrite img ((vwrite img l (at_ + 0) x_.k).2) (at_ + 1) x_.l).2) (at_ + 2) x_.o).2) (at_ + 3) x_.s).2) (at_ + 4) x_.a).2) (at_ + 5) x_.b).2) (at_ + 6) x_.c).2) (at_ + 7) x_.d).2) (at_ + 8) x_.e).1 = 0) := of_decide_eq_false (bnot_true h113)
                    refine W.seq fun K114 hK114 => ?_
                    refine W.region ?_
                    refine ops_run 2 (by kernel_rfl) ?_
                    refine ops_done (by kernel_rfl) ?_
                    refine hK114 _ _ ?_
                    clear hK114
                    refine W.ret (ret_block (ret_seq (ret_seq (ret_block (ret_seq ?_)))))
                    have hs115 : St B w l0 w109 [viewA (ptr b) img ((vwrite img ((vwrite img ((vwrite img ((vwrite img ((vwrite img ((vwrite img ((vwrite img ((vwrite img ((vwrite img l (at_ + 0) x_.k).2) (at_ + 1) x_.l).2) (at_ + 2) x_.o).2) (at_ + 3) x_.s).2) (at_ + 4) x_.a).2) (at_ + 5) x_.b).2) (at_ + 6) x_.c).2) (at_ + 7) x_.d).2) (at_ + 8) x_.e).2)] := St.take (H := [viewA (ptr b) img ((vwrite img ((vwrite img ((vwrite img ((vwrite img ((vwrite img ((vwrite img ((vwrite img ((vwrite img ((vwrite img l (at_ + 0) x_.k).2) (at_ + 1) x_.l).2) (at_ + 2) x_.o).2) (at_ + 3) x_.s).2) (at_ + 4) x_.a).2) (at_ + 5) x_.b).2) (at_ + 6) x_.c).2) (at_ + 7) x_.d).2) (at_ + 8) x_.e).2)]) hs111
                    have e1_ : (vwrites img at_ l 0 x_.list).1 = (vwrite img ((vwrite img ((vwrite img ((vwrite img ((vwrite img ((vwrite img ((vwrite img ((vwrite img ((vwrite img l (at_ + 0) x_.k).2) (at_ + 1) x_.l).2) (at_ + 2) x_.o).2) (at_ + 3) x_.s).2) (at_ + 4) x_.a).2) (at_ + 5) x_.b).2) (at_ + 6) x_.c).2) (at_ + 7) x_.d).2) (at_ + 8) x_.e).1 := by simp only [Nd.list, vwrites, Int.reduceAdd, if_true, if_false, h17p, h29p, h41p, h53p, h65p, h77p, h89p, h101p, h113p]
                    have e2_ : (vwrites img at_ l 0 x_.list).2 = (vwrite img ((vwrite img ((vwrite img ((vwrite img ((vwrite img ((vwrite img ((vwrite img ((vwrite img ((vwrite img l (at_ + 0) x_.k).2) (at_ + 1) x_.l).2) (at_ + 2) x_.o).2) (at_ + 3) x_.s).2) (at_ + 4) x_.a).2) (at_ + 5) x_.b).2) (at_ + 6) x_.c).2) (at_ + 7) x_.d).2) (at_ + 8) x_.e).2 := by simp only [Nd.list, vwrites, Int.reduceAdd, if_true, if_false, h17p, h29p, h41p, h53p, h65p, h77p, h89p, h101p, h113p]
                    refine ret_of (.int .i64 ((vwrite img ((vwrite img ((vwrite img ((vwrite img ((vwrite img ((vwrite img ((vwrite img ((vwrite img ((vwrite img l (at_ + 0) x_.k).2) (at_ + 1) x_.l).2) (at_ + 2) x_.o).2) (at_ + 3) x_.s).2) (at_ + 4) x_.a).2) (at_ + 5) x_.b).2) (at_ + 6) x_.c).2) (at_ + 7) x_.d).2) (at_ + 8) x_.e).1)) (by kernel_rfl) ⟨_, ⟨by rw [e1_], by rw [e2_]⟩, hs115⟩
                  ·
                    have h113p : (vwrite img ((vwrite img ((vwrite img ((vwrite img ((vwrite img ((vwrite img ((vwrite img ((vwrite img ((vwrite img l (at_ + 0) x_.k).2) (at_ + 1) x_.l).2) (at_ + 2) x_.o).2) (at_ + 3) x_.s).2) (at_ + 4) x_.a).2) (at_ + 5) x_.b).2) (at_ + 6) x_.c).2) (at_ + 7) x_.d).2) (at_ + 8) x_.e).1 = 0 := of_decide_eq_true (bnot_false h113)
                    refine W.skip ?_
                    refine normal_block ?_
                    refine hK106 _ _ ?_
                    clear hK106
                    refine W.region ?_
                    refine ops_run 2 (by kernel_rfl) ?_
                    refine ops_done (by kernel_rfl) ?_
                    refine loopAt_next ?_
                    refine loopAt_round ?_
                    refine W.seq fun K116 hK116 => ?_
                    refine W.region ?_
                    refine ops_run 1 (by kernel_rfl) ?_
                    refine ops_done (by kernel_rfl) ?_
                    refine hK116 _ _ ?_
                    clear hK116
                    refine W.seq fun K117 hK117 => ?_
                    refine W.cond_true true (by kernel_rfl) rfl ?_
                    refine W.skip ?_
                    refine hK117 _ _ ?_
                    clear hK117
                    refine W.seq fun K118 hK118 => ?_
                    refine W.block ?_
                    refine W.seq fun K119 hK119 => ?_
                    refine W.region ?_
                    refine ops_run 4 (by kernel_rfl) ?_
                    refine ops_done (by kernel_rfl) ?_
                    refine hK119 _ _ ?_
                    clear hK119
                    refine W.seq fun K120 hK120 => ?_
                    refine W.region ?_
                    refine ops_run 3 (by kernel_rfl) ?_
                    refine ops_val (v := .int .i64 (IntKind.i64.wrap (at_ + 9))) (v' := .int .i64 (at_ + 9)) (by kernel_rfl) (congrArg (Value.int .i64) (wrap_i64 (by omega) (by omega))) ?_
                    refine ops_run 1 (by kernel_rfl) ?_
                    refine ops_call (pre := [viewA (ptr b) img ((vwrite img ((vwrite img ((vwrite img ((vwrite img ((vwrite img ((vwrite img ((vwrite img ((vwrite img ((vwrite img l (at_ + 0) x_.k).2) (at_ + 1) x_.l).2) (at_ + 2) x_.o).2) (at_ + 3) x_.s).2) (at_ + 4) x_.a).2) (at_ + 5) x_.b).2) (at_ + 6) x_.c).2) (at_ + 7) x_.d).2) (at_ + 8) x_.e).2)]) hs111 (by kernel_rfl) (sset_spec (b := b) (img := img) (l := (vwrite img ((vwrite img ((vwrite img ((vwrite img ((vwrite img ((vwrite img ((vwrite img ((vwrite img ((vwrite img l (at_ + 0) x_.k).2) (at_ + 1) x_.l).2) (at_ + 2) x_.o).2) (at_ + 3) x_.s).2) (at_ + 4) x_.a).2) (at_ + 5) x_.b).2) (at_ + 6) x_.c).2) (at_ + 7) x_.d).2) (at_ + 8) x_.e).2) (at_ := (at_ + 9)) (x_ := x_.m) B _) ?_
                    rintro _ _ w121 ⟨rfl, rfl⟩ hs122
                    have hs123 : St B w l0 w121 [viewA (ptr b) img ((vwrite img ((vwrite img ((vwrite img ((vwrite img ((vwrite img ((vwrite img ((vwrite img ((vwrite img ((vwrite img ((vwrite img l (at_ + 0) x_.k).2) (at_ + 1) x_.l).2) (at_ + 2) x_.o).2) (at_ + 3) x_.s).2) (at_ + 4) x_.a).2) (at_ + 5) x_.b).2) (at_ + 6) x_.c).2) (at_ + 7) x_.d).2) (at_ + 8) x_.e).2) (at_ + 9) x_.m).2), blk b4 (.cells [(.int .u64 x_.k), (.int .u64 x_.l), (.int .u64 x_.o), (.int .u64 x_.s), (.int .u64 x_.a), (.int .u64 x_.b), (.int .u64 x_.c), (.int .u64 x_.d), (.int .u64 x_.e), (.int .u64 x_.m)].toArray 103 (0, 0))] := hs122
                    refine ops_run 1 (by kernel_rfl) ?_
                    refine ops_done (by kernel_rfl) ?_
                    refine hK120 _ _ ?_
                    clear hK120
                    refine W.seq fun K124 hK124 => ?_
                    refine W.region ?_
                    refine ops_run 2 (by kernel_rfl) ?_
                    refine ops_done (by kernel_rfl) ?_
                    refine hK124 _ _ ?_
                    clear hK124
                    refine W.cond (!decide ((vwrite img ((vwrite img ((vwrite img ((vwrite img ((vwrite img ((vwrite img ((vwrite img ((vwrite img ((vwrite img ((vwrite img l (at_ + 0) x_.k).2) (at_ + 1) x_.l).2) (at_ + 2) x_.o).2) (at_ + 3) x_.s).2) (at_ + 4) x_.a).2) (at_ + 5) x_.b).2) (at_ + 6) x_.c).2) (at_ + 7) x_.d).2) (at_ + 8) x_.e).2) (at_ + 9) x_.m).1 = 0)) (by kernel_rfl) (fun h125 => ?_) (fun h125 => ?_)
                    ·
                      have h125p : ¬ ((vwrite img ((vwrite img ((vwrite img ((vwrite img ((vwrite img ((vwrite img ((vwrite img ((vwrite img ((vwrite img ((vwrite img l (at_ + 0) x_.k).2) (at_ + 1) x_.l).2) (at_ + 2) x_.o).2) (at_ + 3) x_.s).2) (at_ + 4) x_.a).2) (at_ + 5) x_.b).2) (at_ + 6) x_.c).2) (at_ + 7) x_.d).2) (at_ + 8) x_.e).2) (at_ + 9) x_.m).1 = 0) := of_decide_eq_false (bnot_true h125)
                      refine W.seq fun K126 hK126 => ?_
                      refine W.region ?_
                      refine ops_run 2 (by kernel_rfl) ?_
                      refine ops_done (by kernel_rfl) ?_
                      refine hK126 _ _ ?_
                      clear hK126
                      refine W.ret (ret_block (ret_seq (ret_seq (ret_block (ret_seq ?_)))))
                      have hs127 : St B w l0 w121 [viewA (ptr b) img ((vwrite img ((vwrite img ((vwrite img ((vwrite img ((vwrite img ((vwrite img ((vwrite img ((vwrite img ((vwrite img ((vwrite img l (at_ + 0) x_.k).2) (at_ + 1) x_.l).2) (at_ + 2) x_.o).2) (at_ + 3) x_.s).2) (at_ + 4) x_.a).2) (at_ + 5) x_.b).2) (at_ + 6) x_.c).2) (at_ + 7) x_.d).2) (at_ + 8) x_.e).2) (at_ + 9) x_.m).2)] := St.take (H := [viewA (ptr b) img ((vwrite img ((vwrite img ((vwrite img ((vwrite img ((vwrite img ((vwrite img ((vwrite img ((vwrite img ((vwrite img ((vwrite img l (at_ + 0) x_.k).2) (at_ + 1) x_.l).2) (at_ + 2) x_.o).2) (at_ + 3) x_.s).2) (at_ + 4) x_.a).2) (at_ + 5) x_.b).2) (at_ + 6) x_.c).2) (at_ + 7) x_.d).2) (at_ + 8) x_.e).2) (at_ + 9) x_.m).2)]) hs123
                      have e1_ : (vwrites img at_ l 0 x_.list).1 = (vwrite img ((vwrite img ((vwrite img ((vwrite img ((vwrite img ((vwrite img ((vwrite img ((vwrite img ((vwrite img ((vwrite img l (at_ + 0) x_.k).2) (at_ + 1) x_.l).2) (at_ + 2) x_.o).2) (at_ + 3) x_.s).2) (at_ + 4) x_.a).2) (at_ + 5) x_.b).2) (at_ + 6) x_.c).2) (at_ + 7) x_.d).2) (at_ + 8) x_.e).2) (at_ + 9) x_.m).1 := by simp only [Nd.list, vwrites, Int.reduceAdd, if_true, if_false, h17p, h29p, h41p, h53p, h65p, h77p, h89p, h101p, h113p, h125p]
                      have e2_ : (vwrites img at_ l 0 x_.list).2 = (vwrite img ((vwrite img ((vwrite img ((vwrite img ((vwrite img ((vwrite img ((vwrite img ((vwrite img ((vwrite img ((vwrite img l (at_ + 0) x_.k).2) (at_ + 1) x_.l).2) (at_ + 2) x_.o).2) (at_ + 3) x_.s).2) (at_ + 4) x_.a).2) (at_ + 5) x_.b).2) (at_ + 6) x_.c).2) (at_ + 7) x_.d).2) (at_ + 8) x_.e).2) (at_ + 9) x_.m).2 := by simp only [Nd.list, vwrites, Int.reduceAdd, if_true, if_false, h17p, h29p, h41p, h53p, h65p, h77p, h89p, h101p, h113p, h125p]
                      refine ret_of (.int .i64 ((vwrite img ((vwrite img ((vwrite img ((vwrite img ((vwrite img ((vwrite img ((vwrite img ((vwrite img ((vwrite img ((vwrite img l (at_ + 0) x_.k).2) (at_ + 1) x_.l).2) (at_ + 2) x_.o).2) (at_ + 3) x_.s).2) (at_ + 4) x_.a).2) (at_ + 5) x_.b).2) (at_ + 6) x_.c).2) (at_ + 7) x_.d).2) (at_ + 8) x_.e).2) (at_ + 9) x_.m).1)) (by kernel_rfl) ⟨_, ⟨by rw [e1_], by rw [e2_]⟩, hs127⟩
                    ·
                      have h125p : (vwrite img ((vwrite img ((vwrite img ((vwrite img ((vwrite img ((vwrite img ((vwrite img ((vwrite img ((vwrite img ((vwrite img l (at_ + 0) x_.k).2) (at_ + 1) x_.l).2) (at_ + 2) x_.o).2) (at_ + 3) x_.s).2) (at_ + 4) x_.a).2) (at_ + 5) x_.b).2) (at_ + 6) x_.c).2) (at_ + 7) x_.d).2) (at_ + 8) x_.e).2) (at_ + 9) x_.m).1 = 0 := of_decide_eq_true (bnot_false h125)
                      refine W.skip ?_
                      refine normal_block ?_
                      refine hK118 _ _ ?_
                      clear hK118
                      refine W.region ?_
                      refine ops_run 2 (by kernel_rfl) ?_
                      refine ops_done (by kernel_rfl) ?_
                      refine loopAt_next ?_
                      refine loopAt_round ?_
                      refine W.seq fun K128 hK128 => ?_
                      refine W.region ?_
                      refine ops_run 1 (by kernel_rfl) ?_
                      refine ops_done (by kernel_rfl) ?_
                      refine hK128 _ _ ?_
                      clear hK128
                      refine W.seq fun K129 hK129 => ?_
                      refine W.cond_false false (by kernel_rfl) rfl ?_
                      refine W.exit (exit_seq (exit_seq (exit_here ?_)))
                      refine hK5 _ _ ?_
                      clear hK5
                      refine W.seq fun K130 hK130 => ?_
                      refine W.region ?_
                      refine ops_run 1 (by kernel_rfl) ?_
                      refine ops_done (by kernel_rfl) ?_
                      refine hK130 _ _ ?_
                      clear hK130
                      refine W.ret ?_
                      have hs131 : St B w l0 w121 [viewA (ptr b) img ((vwrite img ((vwrite img ((vwrite img ((vwrite img ((vwrite img ((vwrite img ((vwrite img ((vwrite img ((vwrite img ((vwrite img l (at_ + 0) x_.k).2) (at_ + 1) x_.l).2) (at_ + 2) x_.o).2) (at_ + 3) x_.s).2) (at_ + 4) x_.a).2) (at_ + 5) x_.b).2) (at_ + 6) x_.c).2) (at_ + 7) x_.d).2) (at_ + 8) x_.e).2) (at_ + 9) x_.m).2)] := St.take (H := [viewA (ptr b) img ((vwrite img ((vwrite img ((vwrite img ((vwrite img ((vwrite img ((vwrite img ((vwrite img ((vwrite img ((vwrite img ((vwrite img l (at_ + 0) x_.k).2) (at_ + 1) x_.l).2) (at_ + 2) x_.o).2) (at_ + 3) x_.s).2) (at_ + 4) x_.a).2) (at_ + 5) x_.b).2) (at_ + 6) x_.c).2) (at_ + 7) x_.d).2) (at_ + 8) x_.e).2) (at_ + 9) x_.m).2)]) hs123
                      have e1_ : (vwrites img at_ l 0 x_.list).1 = 0 := by simp only [Nd.list, vwrites, Int.reduceAdd, if_true, if_false, h17p, h29p, h41p, h53p, h65p, h77p, h89p, h101p, h113p, h125p]
                      have e2_ : (vwrites img at_ l 0 x_.list).2 = (vwrite img ((vwrite img ((vwrite img ((vwrite img ((vwrite img ((vwrite img ((vwrite img ((vwrite img ((vwrite img ((vwrite img l (at_ + 0) x_.k).2) (at_ + 1) x_.l).2) (at_ + 2) x_.o).2) (at_ + 3) x_.s).2) (at_ + 4) x_.a).2) (at_ + 5) x_.b).2) (at_ + 6) x_.c).2) (at_ + 7) x_.d).2) (at_ + 8) x_.e).2) (at_ + 9) x_.m).2 := by simp only [Nd.list, vwrites, Int.reduceAdd, if_true, if_false, h17p, h29p, h41p, h53p, h65p, h77p, h89p, h101p, h113p, h125p]
                      refine ret_of (.int .i64 0) (by kernel_rfl) ⟨_, ⟨by rw [e1_], by rw [e2_]⟩, hs131⟩

end Go.Proofs.Ythimamnblklkbaa
