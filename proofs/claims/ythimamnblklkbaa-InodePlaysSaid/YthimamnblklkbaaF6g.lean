/- Contracts of layers 6 and 7, by a program. -/
import Derived.Test.YthimamnblklkbaaF6f
namespace Go.Proofs.Ythimamnblklkbaa
open Go Go.RowKit
set_option linter.unusedSimpArgs false
set_option linter.unusedVariables false

set_option maxRecDepth 20000 in
theorem there_spec {p : Value} {img : List Int} {l : List (Int × Int)} {gw gi gb n_ : Int} (B : Nat) (w : World) (hv : RefAt p img l w) : Spec Try.prog 60 #[p, (.agg #[(.int .i64 gw), (.int .i64 gi), (.int .i64 gb)]), (.int .i64 n_)] B w [] (fun v H' => v = .int .i64 (ifind (img.length : Int) gw gi gb n_).2 ∧ H' = []) := by
  refine spec_Q Try.func60 rfl fun hs => ?_
  have hv0 := hv
  obtain ⟨x, rfl, hok, hb, hi, ho, hcap⟩ := hv
  have hroom := hok.many
  have hroom2 := hok.size
  refine W.seq fun K1 hK1 => ?_
  refine W.region ?_
  refine ops_new (fun b => .pointer (some ⟨b, 0, none⟩)) (.cells [(.int .i64 gw), (.int .i64 gi), (.int .i64 gb)].toArray 61 (0, 0)) hs (by kernel_rfl) (fun b4 w2 hs3 => ?_)
  refine ops_run 1 (by kernel_rfl) ?_
  refine ops_done (by kernel_rfl) ?_
  refine hK1 _ _ ?_
  clear hK1
  refine W.seq fun K5 hK5 => ?_
  refine W.seq fun K6 hK6 => ?_
  refine W.region ?_
  refine ops_R (runs_loadAgg (ad := ⟨b4, 0, none⟩) (cs := [(.int .i64 gw), (.int .i64 gi), (.int .i64 gb)]) (by kernel_rfl) (cells_sub (hs3.heapAt 0 rfl) rfl)) ?_
  refine ops_call (pre := []) hs3 (by kernel_rfl) (rmay_spec (gw := gw) (gi := gi) (gb := gb) B _) ?_
  rintro _ _ w7 ⟨rfl, rfl⟩ hs8
  have hs9 : St B w [] w7 [blk b4 (.cells [(.int .i64 gw), (.int .i64 gi), (.int .i64 gb)].toArray 61 (0, 0))] := hs8
  refine ops_run 2 (by kernel_rfl) ?_
  rcases Bool.eq_false_or_eq_true (!(decide (May gw gi gb))) with h10 | h10
  ·
    have h10p : ¬ (May gw gi gb) := of_decide_eq_false (bnot_true h10)
    refine ops_set 10 (v := .bool true) (eq_bool_of (by kernel_rfl) h10) ?_
    refine ops_set 9 (v := .bool true) (eq_bool_of (by kernel_rfl) h10) ?_
    refine ops_run 9 (by kernel_rfl) ?_
    refine ops_done (by kernel_rfl) ?_
    refine hK6 _ _ ?_
    clear hK6
    refine W.cond_true true (by kernel_rfl) rfl ?_
    refine W.seq fun K11 hK11 => ?_
    refine W.region ?_
    refine ops_run 1 (by kernel_rfl) ?_
    refine ops_done (by kernel_rfl) ?_
    refine hK11 _ _ ?_
    clear hK11
    refine W.ret (ret_seq ?_)
    have hs12 : St B w [] w7 [] := St.take (H := []) hs9
    refine ret_of (.int .i64 1) (by kernel_rfl) ⟨_, ⟨congrArg (Value.int .i64) (by rcases place8_cases gw gi gb n_ with ⟨q1, q2⟩ | ⟨q1, q2, q3⟩ <;> (try have q1_ := may_out q1) <;> first | contradiction | (exfalso; omega) | (exfalso; exact q2 ⟨by assumption, by omega, by omega⟩) | (simp only [ifind]; rw [if_pos (by omega)]) | (simp only [ifind]; rw [if_neg (by omega), if_pos (by omega)]) | (simp only [ifind]; rw [if_neg (by omega), if_neg (by omega)])), rfl⟩, hs12⟩
  ·
    have h10p : May gw gi gb := of_decide_eq_true (bnot_false h10)
    refine ops_set 10 (v := .bool false) (eq_bool_of (by kernel_rfl) h10) ?_
    refine ops_set 9 (v := .bool false) (eq_bool_of (by kernel_rfl) h10) ?_
    refine ops_run 4 (by kernel_rfl) ?_
    rcases Bool.eq_false_or_eq_true (decide (n_ < 1)) with h13 | h13
    ·
      have h13p : n_ < 1 := of_decide_eq_true h13
      refine ops_set 14 (v := .bool true) (eq_bool_of (by kernel_rfl) h13) ?_
      refine ops_set 12 (v := .bool true) (eq_bool_of (by kernel_rfl) h13) ?_
      refine ops_set 13 (v := .bool true) (eq_bool_of (by kernel_rfl) h13) ?_
      refine ops_run 5 (by kernel_rfl) ?_
      refine ops_done (by kernel_rfl) ?_
      refine hK6 _ _ ?_
      clear hK6
      refine W.cond_true true (by kernel_rfl) rfl ?_
      refine W.seq fun K14 hK14 => ?_
      refine W.region ?_
      refine ops_run 1 (by kernel_rfl) ?_
      refine ops_done (by kernel_rfl) ?_
      refine hK14 _ _ ?_
      clear hK14
      refine W.ret (ret_seq ?_)
      have hs15 : St B w [] w7 [] := St.take (H := []) hs9
      refine ret_of (.int .i64 1) (by kernel_rfl) ⟨_, ⟨congrArg (Value.int .i64) (by rcases place8_cases gw gi gb n_ with ⟨q1, q2⟩ | ⟨q1, q2, q3⟩ <;> (try have q1_ := may_out q1) <;> first | contradiction | (exfalso; omega) | (exfalso; exact q2 ⟨by assumption, by omega, by omega⟩) | (simp only [ifind]; rw [if_pos (by omega)]) | (simp only [ifind]; rw [if_neg (by omega), if_pos (by omega)]) | (simp only [ifind]; rw [if_neg (by omega), if_neg (by omega)])), rfl⟩, hs15⟩
    ·
      have h13p : ¬ (n_ < 1) := of_decide_eq_false h13
      refine ops_set 14 (v := .bool false) (eq_bool_of (by kernel_rfl) h13) ?_
      refine ops_set 12 (v := .bool false) (eq_bool_of (by kernel_rfl) h13) ?_
      refine ops_set 13 (v := .bool false) (eq_bool_of (by kernel_rfl) h13) ?_
      refine ops_run 2 (by kernel_rfl) ?_
      refine ops_R (runs_load (ad := ⟨b4, 1, none⟩) (v := (.int .i64 gi)) (by kernel_rfl) (hs9.cellAt 0 rfl rfl)) ?_
      refine ops_run 2 (by kernel_rfl) ?_
      refine ops_done (by kernel_rfl) ?_
      refine hK6 _ _ ?_
      clear hK6
      refine W.cond (decide (n_ ≥ gi)) (by kernel_rfl) (fun h16 => ?_) (fun h16 => ?_)
      ·
        have h16p : n_ ≥ gi := of_decide_eq_true h16
        refine W.seq fun K17 hK17 => ?_
        refine W.region ?_
        refine ops_run 1 (by kernel_rfl) ?_
        refine ops_done (by kernel_rfl) ?_
        refine hK17 _ _ ?_
        clear hK17
        refine W.ret (ret_seq ?_)
        have hs18 : St B w [] w7 [] := St.take (H := []) hs9
        refine ret_of (.int .i64 1) (by kernel_rfl) ⟨_, ⟨congrArg (Value.int .i64) (by rcases place8_cases gw gi gb n_ with ⟨q1, q2⟩ | ⟨q1, q2, q3⟩ <;> (try have q1_ := may_out q1) <;> first | contradiction | (exfalso; omega) | (exfalso; exact q2 ⟨by assumption, by omega, by omega⟩) | (simp only [ifind]; rw [if_pos (by omega)]) | (simp only [ifind]; rw [if_neg (by omega), if_pos (by omega)]) | (simp only [ifind]; rw [if_neg (by omega), if_neg (by omega)])), rfl⟩, hs18⟩
      ·
        have h16p : ¬ (n_ ≥ gi) := of_decide_eq_false h16
        refine W.skip ?_
        refine hK5 _ _ ?_
        clear hK5
        refine W.seq fun K19 hK19 => ?_
        refine W.seq fun K20 hK20 => ?_
        have hs21 := hs9.drew
        refine W.regionD [(0, 0), (1, 1), (2, 2), (4, 4), (8, 8), (0, 0), (32, 32), (80, 80)] (fun w_ => St B w [] w_ [blk b4 (.cells [(.int .i64 gw), (.int .i64 gi), (.int .i64 gb)].toArray 61 (0, 0))]) (by kernel_rfl) hs21 ?_
        refine any_val (v := (.pointer (some ⟨x.b, 0, none⟩))) (v' := (.pointer (some ⟨x.b, 0, none⟩))) 0 (by kernel_rfl) (fun _ => by kernel_rfl) rfl hs21 ?_
        refine any_val (v := (.pointer (some ⟨x.b, 0, none⟩))) (v' := (.pointer (some ⟨x.b, 0, none⟩))) 1 (by kernel_rfl) (fun _ => by kernel_rfl) rfl hs21 ?_
        refine any_val (v := (.pointer (some ⟨x.b, 0, none⟩))) (v' := (.pointer (some ⟨x.b, 0, none⟩))) 2 (by kernel_rfl) (fun _ => by kernel_rfl) rfl hs21 ?_
        refine any_R 3 (by kernel_rfl) (fun _ hS_ => runs_load (ad := ⟨x.b, 0, none⟩) (v := (.slice x.ia img.length x.ic)) (by kernel_rfl) (cell_of_blk (hS_.old hb) rfl)) hs21 ?_
        refine any_val (v := (.int .i64 (img.length : Int))) (v' := (.int .i64 (img.length : Int))) 4 (by kernel_rfl) (fun _ => by kernel_rfl) rfl hs21 ?_
        refine any_R 5 (by kernel_rfl) (fun _ hS_ => runs_loadAgg (ad := ⟨b4, 0, none⟩) (cs := [(.int .i64 gw), (.int .i64 gi), (.int .i64 gb)]) (by kernel_rfl) (cells_sub (hS_.heapAt 0 rfl) rfl)) hs21 ?_
        refine any_step 6 (by kernel_rfl) (by kernel_rfl) ?_
        refine ops_call (pre := []) hs21 (by kernel_rfl) (rwords_spec (gw := gw) (gi := gi) (gb := gb) B _) ?_
        rintro _ _ w22 ⟨rfl, rfl⟩ hs23
        have hs24 : St B w [] w22 [blk b4 (.cells [(.int .i64 gw), (.int .i64 gi), (.int .i64 gb)].toArray 61 (0, 0))] := hs23
        refine ops_done (by kernel_rfl) ⟨hs24, ?_⟩
        refine any_val (v := (.bool (decide ((img.length : Int) < (wordsOf gw gi gb))))) (v' := (.bool (decide ((img.length : Int) < (wordsOf gw gi gb))))) 7 (by kernel_rfl) (fun _ => by kernel_rfl) rfl hs24 ?_
        refine any_done (by kernel_rfl) ?_
        refine hK20 _ _ ?_
        clear hK20
        refine W.cond (decide ((img.length : Int) < (wordsOf gw gi gb))) (by kernel_rfl) (fun h25 => ?_) (fun h25 => ?_)
        ·
          have h25p : (img.length : Int) < (wordsOf gw gi gb) := of_decide_eq_true h25
          refine W.seq fun K26 hK26 => ?_
          refine W.region ?_
          refine ops_run 1 (by kernel_rfl) ?_
          refine ops_done (by kernel_rfl) ?_
          refine hK26 _ _ ?_
          clear hK26
          refine W.ret (ret_seq ?_)
          have hs27 : St B w [] w22 [] := St.take (H := []) hs24
          refine ret_of (.int .i64 8) (by kernel_rfl) ⟨_, ⟨congrArg (Value.int .i64) (by rcases place8_cases gw gi gb n_ with ⟨q1, q2⟩ | ⟨q1, q2, q3⟩ <;> (try have q1_ := may_out q1) <;> first | contradiction | (exfalso; omega) | (exfalso; exact q2 ⟨by assumption, by omega, by omega⟩) | (simp only [ifind]; rw [if_pos (by omega)]) | (simp only [ifind]; rw [if_neg (by omega), if_pos (by omega)]) | (simp only [ifind]; rw [if_neg (by omega), if_neg (by omega)])), rfl⟩, hs27⟩
        ·
          have h25p : ¬ ((img.length : Int) < (wordsOf gw gi gb)) := of_decide_eq_false h25
          refine W.skip ?_
          refine hK19 _ _ ?_
          clear hK19
          refine W.seq fun K28 hK28 => ?_
          refine W.region ?_
          refine ops_run 1 (by kernel_rfl) ?_
          refine ops_done (by kernel_rfl) ?_
          refine hK28 _ _ ?_
          clear hK28
          refine W.ret ?_
          have hs29 : St B w [] w22 [] := St.take (H := []) hs24
          refine ret_of (.int .i64 0) (by kernel_rfl) ⟨_, ⟨congrArg (Value.int .i64) (by rcases place8_cases gw gi gb n_ with ⟨q1, q2⟩ | ⟨q1, q2, q3⟩ <;> (try have q1_ := may_out q1) <;> first | contradiction | (exfalso; omega) | (exfalso; exact q2 ⟨by assumption, by omega, by omega⟩) | (simp only [ifind]; rw [if_pos (by omega)]) | (simp only [ifind]; rw [if_neg (by omega), if_pos (by omega)]) | (simp only [ifind]; rw [if_neg (by omega), if_neg (by omega)])), rfl⟩, hs29⟩

set_option maxRecDepth 20000 in
set_option maxHeartbeats 1000000 in
theorem ip_spec {b : Nat} {img : List Int} {l : List (Int × Int)} {gw gi gb n_ : Int} {x_ : Nd} (B : Nat) (w : World) : Spec Try.prog 35 #[(.pointer (some ⟨b, 0, none⟩)), (.agg #[(.int .i64 gw), (.int .i64 gi), (.int .i64 gb)]), (.int .i64 n_), (.agg #[(.int .u64 x_.k), (.int .u64 x_.l), (.int .u64 x_.o), (.int .u64 x_.s), (.int .u64 x_.a), (.int .u64 x_.b), (.int .u64 x_.c), (.int .u64 x_.d), (.int .u64 x_.e), (.int .u64 x_.m)])] B w [viewA (ptr b) img l] (fun v H' => v = .int .i64 (iputM img l gw gi gb n_ x_).1 ∧ H' = [viewA (ptr b) img (iputM img l gw gi gb n_ x_).2]) := by
  refine spec_W Try.func35 rfl fun l0 hs => ?_
  have hrg := ifind_range (img.length : Int) gw gi gb n_
  refine W.seq fun K1 hK1 => ?_
  refine W.region ?_
  refine ops_new (fun b => .pointer (some ⟨b, 0, none⟩)) (.cells [(.int .i64 gw), (.int .i64 gi), (.int .i64 gb)].toArray 56 (0, 0)) hs (by kernel_rfl) (fun b4 w2 hs3 => ?_)
  refine ops_new (fun b => .pointer (some ⟨b, 0, none⟩)) (.cells [(.int .u64 x_.k), (.int .u64 x_.l), (.int .u64 x_.o), (.int .u64 x_.s), (.int .u64 x_.a), (.int .u64 x_.b), (.int .u64 x_.c), (.int .u64 x_.d), (.int .u64 x_.e), (.int .u64 x_.m)].toArray 54 (0, 0)) hs3 (by kernel_rfl) (fun b7 w5 hs6 => ?_)
  refine ops_run 1 (by kernel_rfl) ?_
  refine ops_done (by kernel_rfl) ?_
  refine hK1 _ _ ?_
  clear hK1
  refine W.seq fun K8 hK8 => ?_
  refine W.region ?_
  refine ops_run 1 (by kernel_rfl) ?_
  refine ops_R (runs_loadAgg (ad := ⟨b4, 0, none⟩) (cs := [(.int .i64 gw), (.int .i64 gi), (.int .i64 gb)]) (by kernel_rfl) (cells_sub (hs6.heapAt 1 rfl) rfl)) ?_
  refine ops_run 1 (by kernel_rfl) ?_
  refine ops_call (pre := []) hs6 (by kernel_rfl) (ifind_spec (gw := gw) (gi := gi) (gb := gb) (n_ := n_) (hv := (hs6.entAt 2 rfl viewA_at)) B _) ?_
  rintro _ _ w9 ⟨rfl, rfl⟩ hs10
  have hs11 : St B w l0 w9 [blk b7 (.cells [(.int .u64 x_.k), (.int .u64 x_.l), (.int .u64 x_.o), (.int .u64 x_.s), (.int .u64 x_.a), (.int .u64 x_.b), (.int .u64 x_.c), (.int .u64 x_.d), (.int .u64 x_.e), (.int .u64 x_.m)].toArray 54 (0, 0)), blk b4 (.cells [(.int .i64 gw), (.int .i64 gi), (.int .i64 gb)].toArray 56 (0, 0)), viewA (ptr b) img l] := hs10
  refine ops_run 5 (by kernel_rfl) ?_
  refine ops_done (by kernel_rfl) ?_
  refine hK8 _ _ ?_
  clear hK8
  refine W.seq fun K12 hK12 => ?_
  refine W.block ?_
  refine W.seq fun K13 hK13 => ?_
  refine W.region ?_
  refine ops_run 3 (by kernel_rfl) ?_
  refine ops_done (by kernel_rfl) ?_
  refine hK13 _ _ ?_
  clear hK13
  refine W.cond (decide ((ifind (img.length : Int) gw gi gb n_).2 = 2)) (by kernel_rfl) (fun h14 => ?_) (fun h14 => ?_)
  ·
    have h14p : (ifind (img.length : Int) gw gi gb n_).2 = 2 := of_decide_eq_true h14
    refine W.seq fun K15 hK15 => ?_
    refine W.region ?_
    refine ops_run 2 (by kernel_rfl) ?_
    refine ops_done (by kernel_rfl) ?_
    refine hK15 _ _ ?_
    clear hK15
    refine W.ret (ret_block (ret_seq ?_))
    have hs16 : St B w l0 w9 [viewA (ptr b) img l, blk b7 (.cells [(.int .u64 x_.k), (.int .u64 x_.l), (.int .u64 x_.o), (.int .u64 x_.s), (.int .u64 x_.a), (.int .u64 x_.b), (.int .u64 x_.c), (.int .u64 x_.d), (.int .u64 x_.e), (.int .u64 x_.m)].toArray 54 (0, 0)), blk b4 (.cells [(.int .i64 gw), (.int .i64 gi), (.int .i64 gb)].toArray 56 (0, 0))] := hs11.front 2 (by simp)
    have hs17 : St B w l0 w9 [viewA (ptr b) img l] := St.take (H := [viewA (ptr b) img l]) hs16
    have e1_ : (iputM img l gw gi gb n_ x_).1 = (ifind (img.length : Int) gw gi gb n_).2 := by first | (exfalso; omega) | (simp only [iputM]; first | (rw [if_neg (by assumption)]; try rfl; done) | (rw [if_pos (by assumption), if_neg (by assumption)]; try rfl; done) | (rw [if_pos (by assumption), if_pos (by assumption)]; try rfl; done))
    have e2_ : (iputM img l gw gi gb n_ x_).2 = l := by first | (exfalso; omega) | (simp only [iputM]; first | (rw [if_neg (by assumption)]; try rfl; done) | (rw [if_pos (by assumption), if_neg (by assumption)]; try rfl; done) | (rw [if_pos (by assumption), if_pos (by assumption)]; try rfl; done))
    refine ret_of (.int .i64 ((ifind (img.length : Int) gw gi gb n_).2)) (by kernel_rfl) ⟨_, ⟨by rw [e1_], by rw [e2_]⟩, hs17⟩
  ·
    have h14p : ¬ ((ifind (img.length : Int) gw gi gb n_).2 = 2) := of_decide_eq_false h14
    refine W.seq fun K18 hK18 => ?_
    refine W.region ?_
    refine ops_R (runs_loadAgg (ad := ⟨b4, 0, none⟩) (cs := [(.int .i64 gw), (.int .i64 gi), (.int .i64 gb)]) (by kernel_rfl) (cells_sub (hs11.heapAt 1 rfl) rfl)) ?_
    refine ops_R (runs_loadAgg (ad := ⟨b7, 0, none⟩) (cs := [(.int .u64 x_.k), (.int .u64 x_.l), (.int .u64 x_.o), (.int .u64 x_.s), (.int .u64 x_.a), (.int .u64 x_.b), (.int .u64 x_.c), (.int .u64 x_.d), (.int .u64 x_.e), (.int .u64 x_.m)]) (by kernel_rfl) (cells_sub (hs11.heapAt 0 rfl) rfl)) ?_
    refine ops_call (pre := []) hs11 (by kernel_rfl) (right_spec (gw := gw) (gi := gi) (gb := gb) (x_ := ⟨x_.k, x_.l, x_.o, x_.s, x_.a, x_.b, x_.c, x_.d, x_.e, x_.m⟩) B _) ?_
    rintro _ _ w19 ⟨rfl, rfl⟩ hs20
    have hs21 : St B w l0 w19 [blk b7 (.cells [(.int .u64 x_.k), (.int .u64 x_.l), (.int .u64 x_.o), (.int .u64 x_.s), (.int .u64 x_.a), (.int .u64 x_.b), (.int .u64 x_.c), (.int .u64 x_.d), (.int .u64 x_.e), (.int .u64 x_.m)].toArray 54 (0, 0)), blk b4 (.cells [(.int .i64 gw), (.int .i64 gi), (.int .i64 gb)].toArray 56 (0, 0)), viewA (ptr b) img l] := hs20
    refine ops_run 2 (by kernel_rfl) ?_
    refine ops_done (by kernel_rfl) ?_
    refine hK18 _ _ ?_
    clear hK18
    refine W.cond (!(decide (RightP gw gi gb ⟨x_.k, x_.l, x_.o, x_.s, x_.a, x_.b, x_.c, x_.d, x_.e, x_.m⟩))) (by kernel_rfl) (fun h22 => ?_) (fun h22 => ?_)
    ·
      have h22p : ¬ (RightP gw gi gb ⟨x_.k, x_.l, x_.o, x_.s, x_.a, x_.b, x_.c, x_.d, x_.e, x_.m⟩) := of_decide_eq_false (bnot_true h22)
      refine W.seq fun K23 hK23 => ?_
      refine W.region ?_
      refine ops_run 1 (by kernel_rfl) ?_
      refine ops_done (by kernel_rfl) ?_
      refine hK23 _ _ ?_
      clear hK23
      refine W.ret (ret_block (ret_seq ?_))
      have hs24 : St B w l0 w19 [viewA (ptr b) img l, blk b7 (.cells [(.int .u64 x_.k), (.int .u64 x_.l), (.int .u64 x_.o), (.int .u64 x_.s), (.int .u64 x_.a), (.int .u64 x_.b), (.int .u64 x_.c), (.int .u64 x_.d), (.int .u64 x_.e), (.int .u64 x_.m)].toArray 54 (0, 0)), blk b4 (.cells [(.int .i64 gw), (.int .i64 gi), (.int .i64 gb)].toArray 56 (0, 0))] := hs21.front 2 (by simp)
      have hs25 : St B w l0 w19 [viewA (ptr b) img l] := St.take (H := [viewA (ptr b) img l]) hs24
      have e1_ : (iputM img l gw gi gb n_ x_).1 = 1 := by first | (exfalso; omega) | (simp only [iputM]; first | (rw [if_neg (by assumption)]; try rfl; done) | (rw [if_pos (by assumption), if_neg (by assumption)]; try rfl; done) | (rw [if_pos (by assumption), if_pos (by assumption)]; try rfl; done))
      have e2_ : (iputM img l gw gi gb n_ x_).2 = l := by first | (exfalso; omega) | (simp only [iputM]; first | (rw [if_neg (by assumption)]; try rfl; done) | (rw [if_pos (by assumption), if_neg (by assumption)]; try rfl; done) | (rw [if_pos (by assumption), if_pos (by assumption)]; try rfl; done))
      refine ret_of (.int .i64 1) (by kernel_rfl) ⟨_, ⟨by rw [e1_], by rw [e2_]⟩, hs25⟩
    ·
      have h22p : RightP gw gi gb ⟨x_.k, x_.l, x_.o, x_.s, x_.a, x_.b, x_.c, x_.d, x_.e, x_.m⟩ := of_decide_eq_true (bnot_false h22)
      refine W.seq fun K26 hK26 => ?_
      refine W.region ?_
      refine ops_run 3 (by kernel_rfl) ?_
      refine ops_done (by kernel_rfl) ?_
      refine hK26 _ _ ?_
      clear hK26
      refine W.cond (!decide ((ifind (img.length : Int) gw gi gb n_).2 = 0)) (by kernel_rfl) (fun h27 => ?_) (fun h27 => ?_)
      ·
        have h27p : ¬ ((ifind (img.length : Int) gw gi gb n_).2 = 0) := of_decide_eq_false (bnot_true h27)
        refine W.seq fun K28 hK28 => ?_
        refine W.region ?_
        refine ops_run 2 (by kernel_rfl) ?_
        refine ops_done (by kernel_rfl) ?_
        refine hK28 _ _ ?_
        clear hK28
        refine W.ret (ret_block (ret_seq ?_))
        have hs29 : St B w l0 w19 [viewA (ptr b) img l, blk b7 (.cells [(.int .u64 x_.k), (.int .u64 x_.l), (.int .u64 x_.o), (.int .u64 x_.s), (.int .u64 x_.a), (.int .u64 x_.b), (.int .u64 x_.c), (.int .u64 x_.d), (.int .u64 x_.e), (.int .u64 x_.m)].toArray 54 (0, 0)), blk b4 (.cells [(.int .i64 gw), (.int .i64 gi), (.int .i64 gb)].toArray 56 (0, 0))] := hs21.front 2 (by simp)
        have hs30 : St B w l0 w19 [viewA (ptr b) img l] := St.take (H := [viewA (ptr b) img l]) hs29
        have e1_ : (iputM img l gw gi gb n_ x_).1 = (ifind (img.length : Int) gw gi gb n_).2 := by first | (exfalso; omega) | (simp only [iputM]; first | (rw [if_neg (by assumption)]; try rfl; done) | (rw [if_pos (by assumption), if_neg (by assumption)]; try rfl; done) | (rw [if_pos (by assumption), if_pos (by assumption)]; try rfl; done))
        have e2_ : (iputM img l gw gi gb n_ x_).2 = l := by first | (exfalso; omega) | (simp only [iputM]; first | (rw [if_neg (by assumption)]; try rfl; done) | (rw [if_pos (by assumption), if_neg (by assumption)]; try rfl; done) | (rw [if_pos (by assumption), if_pos (by assumption)]; try rfl; done))
        refine ret_of (.int .i64 ((ifind (img.length : Int) gw gi gb n_).2)) (by kernel_rfl) ⟨_, ⟨by rw [e1_], by rw [e2_]⟩, hs30⟩
      ·
        have h27p : (ifind (img.length : Int) gw gi gb n_).2 = 0 := of_decide_eq_true (bnot_false h27)
        refine W.skip ?_
        refine normal_block ?_
        refine hK12 _ _ ?_
        clear hK12
        refine W.seq fun K31 hK31 => ?_
        refine W.region ?_
        refine ops_run 2 (by kernel_rfl) ?_
        refine ops_R (runs_loadAgg (ad := ⟨b7, 0, none⟩) (cs := [(.int .u64 x_.k), (.int .u64 x_.l), (.int .u64 x_.o), (.int .u64 x_.s), (.int .u64 x_.a), (.int .u64 x_.b), (.int .u64 x_.c), (.int .u64 x_.d), (.int .u64 x_.e), (.int .u64 x_.m)]) (by kernel_rfl) (cells_sub (hs21.heapAt 0 rfl) rfl)) ?_
        refine ops_call (pre := []) hs21 (by kernel_rfl) (iwords_spec (x_ := ⟨x_.k, x_.l, x_.o, x_.s, x_.a, x_.b, x_.c, x_.d, x_.e, x_.m⟩) B _) ?_
        rintro _ _ w32 ⟨rfl, rfl⟩ hs33
        have hs34 : St B w l0 w32 [blk b7 (.cells [(.int .u64 x_.k), (.int .u64 x_.l), (.int .u64 x_.o), (.int .u64 x_.s), (.int .u64 x_.a), (.int .u64 x_.b), (.int .u64 x_.c), (.int .u64 x_.d), (.int .u64 x_.e), (.int .u64 x_.m)].toArray 54 (0, 0)), blk b4 (.cells [(.int .i64 gw), (.int .i64 gi), (.int .i64 gb)].toArray 56 (0, 0)), viewA (ptr b) img l] := hs33
        have hs35 : St B w l0 w32 [viewA (ptr b) img l, blk b7 (.cells [(.int .u64 x_.k), (.int .u64 x_.l), (.int .u64 x_.o), (.int .u64 x_.s), (.int .u64 x_.a), (.int .u64 x_.b), (.int .u64 x_.c), (.int .u64 x_.d), (.int .u64 x_.e), (.int .u64 x_.m)].toArray 54 (0, 0)), blk b4 (.cells [(.int .i64 gw), (.int .i64 gi), (.int .i64 gb)].toArray 56 (0, 0))] := hs34.front 2 (by simp)
        refine ops_call (pre := [viewA (ptr b) img l]) hs35 (by kernel_rfl) (iput_spec (b := b) (img := img) (l := l) (at_ := (ifind (img.length : Int) gw gi gb n_).1) (x_ := ⟨x_.k, x_.l, x_.o, x_.s, x_.a, x_.b, x_.c, x_.d, x_.e, x_.m⟩) (hat := (by omega)) B _) ?_
        rintro _ _ w36 ⟨rfl, rfl⟩ hs37
        have hs38 : St B w l0 w36 [viewA (ptr b) img ((vwrites img ((ifind (img.length : Int) gw gi gb n_).1) l 0 [x_.k, x_.l, x_.o, x_.s, x_.a, x_.b, x_.c, x_.d, x_.e, x_.m]).2), blk b7 (.cells [(.int .u64 x_.k), (.int .u64 x_.l), (.int .u64 x_.o), (.int .u64 x_.s), (.int .u64 x_.a), (.int .u64 x_.b), (.int .u64 x_.c), (.int .u64 x_.d), (.int .u64 x_.e), (.int .u64 x_.m)].toArray 54 (0, 0)), blk b4 (.cells [(.int .i64 gw), (.int .i64 gi), (.int .i64 gb)].toArray 56 (0, 0))] := hs37
        refine ops_run 1 (by kernel_rfl) ?_
        refine ops_done (by kernel_rfl) ?_
        refine hK31 _ _ ?_
        clear hK31
        refine W.ret ?_
        have hs39 : St B w l0 w36 [viewA (ptr b) img ((vwrites img ((ifind (img.length : Int) gw gi gb n_).1) l 0 [x_.k, x_.l, x_.o, x_.s, x_.a, x_.b, x_.c, x_.d, x_.e, x_.m]).2)] := St.take (H := [viewA (ptr b) img ((vwrites img ((ifind (img.length : Int) gw gi gb n_).1) l 0 [x_.k, x_.l, x_.o, x_.s, x_.a, x_.b, x_.c, x_.d, x_.e, x_.m]).2)]) hs38
        have e1_ : (iputM img l gw gi gb n_ x_).1 = (vwrites img ((ifind (img.length : Int) gw gi gb n_).1) l 0 [x_.k, x_.l, x_.o, x_.s, x_.a, x_.b, x_.c, x_.d, x_.e, x_.m]).1 := by first | (exfalso; omega) | (simp only [iputM]; first | (rw [if_neg (by assumption)]; try rfl; done) | (rw [if_pos (by assumption), if_neg (by assumption)]; try rfl; done) | (rw [if_pos (by assumption), if_pos (by assumption)]; try rfl; done))
        have e2_ : (iputM img l gw gi gb n_ x_).2 = (vwrites img ((ifind (img.length : Int) gw gi gb n_).1) l 0 [x_.k, x_.l, x_.o, x_.s, x_.a, x_.b, x_.c, x_.d, x_.e, x_.m]).2 := by first | (exfalso; omega) | (simp only [iputM]; first | (rw [if_neg (by assumption)]; try rfl; done) | (rw [if_pos (by assumption), if_neg (by assumption)]; try rfl; done) | (rw [if_pos (by assumption), if_pos (by assumption)]; try rfl; done))
        refine ret_of (.int .i64 ((vwrites img ((ifind (img.length : Int) gw gi gb n_).1) l 0 [x_.k, x_.l, x_.o, x_.s, x_.a, x_.b, x_.c, x_.d, x_.e, x_.m]).1)) (by kernel_rfl) ⟨_, ⟨by rw [e1_], by rw [e2_]⟩, hs39⟩

set_option maxRecDepth 20000 in
set_option maxHeartbeats 1000000 in
theorem iw_spec {b : Nat} {img : List Int} {l : List (Int × Int)} {gw gi gb n_ : Int} (B : Nat) (w : World) : Spec Try.prog 37 #[(.pointer (some ⟨b, 0, none⟩)), (.agg #[(.int .i64 gw), (.int .i64 gi), (.int .i64 gb)]), (.int .i64 n_)] B w [viewA (ptr b) img l] (fun v H' => v = .int .i64 (iwipeM img l gw gi gb n_).1 ∧ H' = [viewA (ptr b) img (iwipeM img l gw gi gb n_).2]) := by
  refine spec_W Try.func37 rfl fun l0 hs => ?_
  have hrg := ifind_range (img.length : Int) gw gi gb n_
  refine W.seq fun K1 hK1 => ?_
  refine W.region ?_
  refine ops_new (fun b => .pointer (some ⟨b, 0, none⟩)) (.cells [(.int .i64 gw), (.int .i64 gi), (.int .i64 gb)].toArray 56 (0, 0)) hs (by kernel_rfl) (fun b4 w2 hs3 => ?_)
  refine ops_run 1 (by kernel_rfl) ?_
  refine ops_done (by kernel_rfl) ?_
  refine hK1 _ _ ?_
  clear hK1
  refine W.seq fun K5 hK5 => ?_
  refine W.region ?_
  refine ops_run 1 (by kernel_rfl) ?_
  refine ops_R (runs_loadAgg (ad := ⟨b4, 0, none⟩) (cs := [(.int .i64 gw), (.int .i64 gi), (.int .i64 gb)]) (by kernel_rfl) (cells_sub (hs3.heapAt 0 rfl) rfl)) ?_
  refine ops_run 1 (by kernel_rfl) ?_
  refine ops_call (pre := []) hs3 (by kernel_rfl) (ifind_spec (gw := gw) (gi := gi) (gb := gb) (n_ := n_) (hv := (hs3.entAt 1 rfl viewA_at)) B _) ?_
  rintro _ _ w6 ⟨rfl, rfl⟩ hs7
  have hs8 : St B w l0 w6 [blk b4 (.cells [(.int .i64 gw), (.int .i64 gi), (.int .i64 gb)].toArray 56 (0, 0)), viewA (ptr b) img l] := hs7
  refine ops_run 5 (by kernel_rfl) ?_
  refine ops_done (by kernel_rfl) ?_
  refine hK5 _ _ ?_
  clear hK5
  refine W.seq fun K9 hK9 => ?_
  refine W.seq fun K10 hK10 => ?_
  refine W.region ?_
  refine ops_run 2 (by kernel_rfl) ?_
  refine ops_done (by kernel_rfl) ?_
  refine hK10 _ _ ?_
  clear hK10
  refine W.cond (!decide ((ifind (img.length : Int) gw gi gb n_).2 = 0)) (by kernel_rfl) (fun h11 => ?_) (fun h11 => ?_)
  ·
    have h11p : ¬ ((ifind (img.length : Int) gw gi gb n_).2 = 0) := of_decide_eq_false (bnot_true h11)
    refine W.seq fun K12 hK12 => ?_
    refine W.region ?_
    refine ops_run 2 (by kernel_rfl) ?_
    refine ops_done (by kernel_rfl) ?_
    refine hK12 _ _ ?_
    clear hK12
    refine W.ret (ret_seq ?_)
    have hs13 : St B w l0 w6 [viewA (ptr b) img l, blk b4 (.cells [(.int .i64 gw), (.int .i64 gi), (.int .i64 gb)].toArray 56 (0, 0))] := hs8.front 1 (by simp)
    have hs14 : St B w l0 w6 [viewA (ptr b) img l] := St.take (H := [viewA (ptr b) img l]) hs13
    have e1_ : (iwipeM img l gw gi gb n_).1 = (ifind (img.length : Int) gw gi gb n_).2 := by first | (exfalso; omega) | (simp only [iwipeM]; first | rw [if_neg (by assumption)] | rw [if_pos (by assumption)])
    have e2_ : (iwipeM img l gw gi gb n_).2 = l := by first | (exfalso; omega) | (simp only [iwipeM]; first | rw [if_neg (by assumption)] | rw [if_pos (by assumption)])
    refine ret_of (.int .i64 ((ifind (img.length : Int) gw gi gb n_).2)) (by kernel_rfl) ⟨_, ⟨by rw [e1_], by rw [e2_]⟩, hs14⟩
  ·
    have h11p : (ifind (img.length : Int) gw gi gb n_).2 = 0 := of_decide_eq_true (bnot_false h11)
    refine W.skip ?_
    refine hK9 _ _ ?_
    clear hK9
    refine W.seq fun K15 hK15 => ?_
    refine W.region ?_
    refine ops_run 3 (by kernel_rfl) ?_
    have hs16 : St B w l0 w6 [viewA (ptr b) img l, blk b4 (.cells [(.int .i64 gw), (.int .i64 gi), (.int .i64 gb)].toArray 56 (0, 0))] := hs8.front 1 (by simp)
    refine ops_call (pre := [viewA (ptr b) img l]) hs16 (by kernel_rfl) (iput_spec (b := b) (img := img) (l := l) (at_ := (ifind (img.length : Int) gw gi gb n_).1) (x_ := ⟨0, 0, 0, 0, 0, 0, 0, 0, 0, 0⟩) (hat := (by omega)) B _) ?_
    rintro _ _ w17 ⟨rfl, rfl⟩ hs18
    have hs19 : St B w l0 w17 [viewA (ptr b) img ((vwrites img ((ifind (img.length : Int) gw gi gb n_).1) l 0 [0, 0, 0, 0, 0, 0, 0, 0, 0, 0]).2), blk b4 (.cells [(.int .i64 gw), (.int .i64 gi), (.int .i64 gb)].toArray 56 (0, 0))] := hs18
    refine ops_run 1 (by kernel_rfl) ?_
    refine ops_done (by kernel_rfl) ?_
    refine hK15 _ _ ?_
    clear hK15
    refine W.ret ?_
    have hs20 : St B w l0 w17 [viewA (ptr b) img ((vwrites img ((ifind (img.length : Int) gw gi gb n_).1) l 0 [0, 0, 0, 0, 0, 0, 0, 0, 0, 0]).2)] := St.take (H := [viewA (ptr b) img ((vwrites img ((ifind (img.length : Int) gw gi gb n_).1) l 0 [0, 0, 0, 0, 0, 0, 0, 0, 0, 0]).2)]) hs19
    have e1_ : (iwipeM img l gw gi gb n_).1 = (vwrites img ((ifind (img.length : Int) gw gi gb n_).1) l 0 [0, 0, 0, 0, 0, 0, 0, 0, 0, 0]).1 := by first | (exfalso; omega) | (simp only [iwipeM]; first | rw [if_neg (by assumption)] | rw [if_pos (by assumption)])
    have e2_ : (iwipeM img l gw gi gb n_).2 = (vwrites img ((ifind (img.length : Int) gw gi gb n_).1) l 0 [0, 0, 0, 0, 0, 0, 0, 0, 0, 0]).2 := by first | (exfalso; omega) | (simp only [iwipeM]; first | rw [if_neg (by assumption)] | rw [if_pos (by assumption)])
    refine ret_of (.int .i64 ((vwrites img ((ifind (img.length : Int) gw gi gb n_).1) l 0 [0, 0, 0, 0, 0, 0, 0, 0, 0, 0]).1)) (by kernel_rfl) ⟨_, ⟨by rw [e1_], by rw [e2_]⟩, hs20⟩

end Go.Proofs.Ythimamnblklkbaa
