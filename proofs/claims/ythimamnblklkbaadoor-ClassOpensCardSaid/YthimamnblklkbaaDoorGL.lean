/- Texts of one kind, one behind the other: A1a, A1b, A1c, A1d, A1e. -/
import Derived.Test.YthimamnblklkbaaDoorGJ
import Derived.Test.YthimamnblklkbaaDoorGK
set_option linter.unusedVariables false
set_option linter.unusedSimpArgs false
/- What the code computes, by a program. -/
namespace Go.Proofs.YthimamnblklkbaaDoor
open Go Go.RowKit
set_option linter.unusedSimpArgs false
set_option linter.unusedVariables false

def cmay_M (q_ : Int) (t_ : Int) : Option (Int) :=
  if q_ < t_ then (if q_ < t_ then (some 1) else (some 0)) else (if q_ > 1099511627776 then (some 1) else (some 0))

set_option maxRecDepth 20000 in
set_option maxHeartbeats 2000000 in
set_option linter.unusedVariables false in
theorem cmay_walk {img : List Int} {l : List (Int × Int)} {q_ : Int} {t_ : Int} {vb : Nat} {r : Int} (B : Nat) (w : World) (hv : ViewAt (ptr vb) img l w) (hm : cmay_M q_ t_ = some r) : Spec Tryd.prog 129 #[(.pointer (some ⟨vb, 0, none⟩)), (.int .u64 q_), (.int .u64 t_)] B w [] (fun v H' => v = (.int .i64 r) ∧ H' = []) := by
  refine spec_Q Tryd.func129 rfl fun hs => ?_
  unfold cmay_M at hm
  refine W.seq fun K1 hK1 => ?_
  refine W.region ?_
  refine ops_run 1 (by kernel_rfl) ?_
  refine ops_done (by kernel_rfl) ?_
  refine hK1 _ _ ?_
  clear hK1
  refine W.seq fun K2 hK2 => ?_
  refine W.block ?_
  refine W.seq fun K3 hK3 => ?_
  refine W.region ?_
  refine ops_run 3 (by kernel_rfl) ?_
  refine ops_done (by kernel_rfl) ?_
  refine hK3 _ _ ?_
  clear hK3
  refine W.cond_false false (by kernel_rfl) rfl ?_
  refine W.seq fun K4 hK4 => ?_
  refine W.seq fun K5 hK5 => ?_
  refine W.region ?_
  refine ops_run 4 (by kernel_rfl) ?_
  refine ops_done (by kernel_rfl) ?_
  refine hK5 _ _ ?_
  clear hK5
  refine W.cond (decide (q_ < t_)) (by kernel_rfl) (fun h6 => ?_) (fun h6 => ?_)
  ·
    have h6p : q_ < t_ := of_decide_eq_true h6
    replace hm := ite_yes hm h6p
    refine W.skip ?_
    refine hK4 _ _ ?_
    clear hK4
    refine W.cond (decide (q_ < t_)) (by kernel_rfl) (fun h7 => ?_) (fun h7 => ?_)
    ·
      have h7p : q_ < t_ := of_decide_eq_true h7
      replace hm := ite_yes hm h7p
      refine W.seq fun K8 hK8 => ?_
      refine W.region ?_
      refine ops_run 1 (by kernel_rfl) ?_
      refine ops_done (by kernel_rfl) ?_
      refine hK8 _ _ ?_
      clear hK8
      refine W.ret (ret_block (ret_seq ?_))
      obtain rfl := some_inj hm
      refine ret_of (.int .i64 1) (by kernel_rfl) ⟨_, ⟨rfl, rfl⟩, hs⟩
    ·
      have h7p : ¬ (q_ < t_) := of_decide_eq_false h7
      replace hm := ite_no hm h7p
      refine W.skip ?_
      refine normal_block ?_
      refine hK2 _ _ ?_
      clear hK2
      refine W.seq fun K9 hK9 => ?_
      refine W.region ?_
      refine ops_run 1 (by kernel_rfl) ?_
      refine ops_done (by kernel_rfl) ?_
      refine hK9 _ _ ?_
      clear hK9
      refine W.ret ?_
      obtain rfl := some_inj hm
      refine ret_of (.int .i64 0) (by kernel_rfl) ⟨_, ⟨rfl, rfl⟩, hs⟩
  ·
    have h6p : ¬ (q_ < t_) := of_decide_eq_false h6
    replace hm := ite_no hm h6p
    refine W.region ?_
    refine ops_run 3 (by kernel_rfl) ?_
    refine ops_done (by kernel_rfl) ?_
    refine hK4 _ _ ?_
    clear hK4
    refine W.cond (decide (q_ > 1099511627776)) (by kernel_rfl) (fun h10 => ?_) (fun h10 => ?_)
    ·
      have h10p : q_ > 1099511627776 := of_decide_eq_true h10
      replace hm := ite_yes hm h10p
      refine W.seq fun K11 hK11 => ?_
      refine W.region ?_
      refine ops_run 1 (by kernel_rfl) ?_
      refine ops_done (by kernel_rfl) ?_
      refine hK11 _ _ ?_
      clear hK11
      refine W.ret (ret_block (ret_seq ?_))
      obtain rfl := some_inj hm
      refine ret_of (.int .i64 1) (by kernel_rfl) ⟨_, ⟨rfl, rfl⟩, hs⟩
    ·
      have h10p : ¬ (q_ > 1099511627776) := of_decide_eq_false h10
      replace hm := ite_no hm h10p
      refine W.skip ?_
      refine normal_block ?_
      refine hK2 _ _ ?_
      clear hK2
      refine W.seq fun K12 hK12 => ?_
      refine W.region ?_
      refine ops_run 1 (by kernel_rfl) ?_
      refine ops_done (by kernel_rfl) ?_
      refine hK12 _ _ ?_
      clear hK12
      refine W.ret ?_
      obtain rfl := some_inj hm
      refine ret_of (.int .i64 0) (by kernel_rfl) ⟨_, ⟨rfl, rfl⟩, hs⟩

end Go.Proofs.YthimamnblklkbaaDoor

/- What the code computes, by a program. -/
namespace Go.Proofs.YthimamnblklkbaaDoor
open Go Go.RowKit
set_option linter.unusedSimpArgs false
set_option linter.unusedVariables false

def copened_J1 (r6 : Bool × Int × Int × Int) (p17 : Int) : Option (Bool × Int × Int × Int) :=
  some (r6.1, r6.2.1, r6.2.2.1, p17)

def copened_M (img : List Int) (l : List (Int × Int)) (i_ : Int) (g_ : Int) : Option (Bool × Int × Int × Int) :=
  (sget_M img l i_).bind fun r6 =>
if r6.2.2.2 = 0 then (if r6.1 = true then (if r6.2.1 = g_ then (copened_J1 r6 r6.2.2.2) else (copened_J1 r6 22)) else (copened_J1 r6 22)) else (copened_J1 r6 r6.2.2.2)

set_option maxRecDepth 20000 in
set_option maxHeartbeats 2000000 in
set_option linter.unusedVariables false in
theorem copened_walk {img : List Int} {l : List (Int × Int)} {i_ : Int} {g_ : Int} {vb : Nat} {r : Bool × Int × Int × Int} (B : Nat) (w : World) (hL : CellsAt (some ⟨1, 0, none⟩) [(.int .i64 1), (.int .i64 2), (.int .i64 2)] w) (hv : ViewAt (ptr vb) img l w) (hm : copened_M img l i_ g_ = some r) : Spec Tryd.prog 130 #[(.pointer (some ⟨vb, 0, none⟩)), (.int .i64 i_), (.int .u64 g_)] B w [] (fun v H' => v = (.tuple #[(.agg #[(.bool r.1), (.int .u64 r.2.1), (.int .u64 r.2.2.1)]), (.int .i64 r.2.2.2)]) ∧ H' = []) := by
  refine spec_Q Tryd.func130 rfl fun hs => ?_
  unfold copened_M at hm
  refine W.seq fun K1 hK1 => ?_
  refine W.region ?_
  refine ops_new (fun b => .pointer (some ⟨b, 0, none⟩)) (.cells [(.bool false), (.int .u64 0), (.int .u64 0)].toArray 48 (0, 0)) hs (by kernel_rfl) (fun b4 w2 hs3 => ?_)
  refine ops_run 1 (by kernel_rfl) ?_
  refine ops_done (by kernel_rfl) ?_
  refine hK1 _ _ ?_
  clear hK1
  refine W.seq fun K5 hK5 => ?_
  refine W.region ?_
  refine ops_run 2 (by kernel_rfl) ?_
  obtain ⟨r6, h7, hm⟩ := bind_some hm
  refine ops_call0 hs3 (by kernel_rfl) (sget_walk (i_ := i_) (img := img) (l := l) (hL := (hs3.oldCells hL)) (hv := (viewAt_old hs3 hv)) (hm := h7) B _) ?_
  rintro _ _ w8 ⟨rfl, rfl⟩ hs9
  have hs10 := St.ap0 hs9
  refine ops_run 3 (by kernel_rfl) ?_
  refine ops_new (fun b => .pointer (some ⟨b, 0, none⟩)) (.cells [(.bool false), (.int .u64 0), (.int .u64 0)].toArray 48 (0, 0)) hs10 (by kernel_rfl) (fun b13 w11 hs12 => ?_)
  refine ops_store (off := 0) (cs := [(.bool false), (.int .u64 0), (.int .u64 0)]) (vs := [(.bool r6.1), (.int .u64 r6.2.1), (.int .u64 r6.2.2.1)]) hs12 (by kernel_rfl) (by simp) rfl (fun w14 hs15 => ?_)
  have hs16 : St B w [] w14 [blk b13 (.cells [(.bool r6.1), (.int .u64 r6.2.1), (.int .u64 r6.2.2.1)].toArray 48 (0, 0)), blk b4 (.cells [(.bool false), (.int .u64 0), (.int .u64 0)].toArray 48 (0, 0))] := hs15
  refine ops_run 1 (by kernel_rfl) ?_
  refine ops_done (by kernel_rfl) ?_
  refine hK5 _ _ ?_
  clear hK5
  refine W.seq_join (fun s_ w_ => ∃ (p17 : Int), (∃ us, s_ = slots 31 [(6, (.pointer (some ⟨b4, 0, none⟩))), (8, (.pointer (some ⟨b13, 0, none⟩))), (9, (.int .i64 p17))] us) ∧ St B w [] w_ [blk b4 (.cells [(.bool false), (.int .u64 0), (.int .u64 0)].toArray 48 (0, 0)), blk b13 (.cells [(.bool r6.1), (.int .u64 r6.2.1), (.int .u64 r6.2.2.1)].toArray 48 (0, 0))] ∧ copened_J1 r6 p17 = some r) ?_ ?_
  ·
    rintro _ w18 ⟨p17, ⟨us, rfl⟩, hs19, hm⟩
    unfold copened_J1 at hm
    refine W.seq fun K20 hK20 => ?_
    refine W.region ?_
    refine ops_R (runs_loadAgg (ad := ⟨b13, 0, none⟩) (cs := [(.bool r6.1), (.int .u64 r6.2.1), (.int .u64 r6.2.2.1)]) (by kernel_rfl) (cells_sub (hs19.heapAt 1 rfl) rfl)) ?_
    refine ops_run 1 (by kernel_rfl) ?_
    refine ops_store (off := 0) (cs := [(.bool false), (.int .u64 0), (.int .u64 0)]) (vs := [(.bool r6.1), (.int .u64 r6.2.1), (.int .u64 r6.2.2.1)]) hs19 (by kernel_rfl) (by simp) rfl (fun w21 hs22 => ?_)
    have hs23 : St B w [] w21 [blk b4 (.cells [(.bool r6.1), (.int .u64 r6.2.1), (.int .u64 r6.2.2.1)].toArray 48 (0, 0)), blk b13 (.cells [(.bool r6.1), (.int .u64 r6.2.1), (.int .u64 r6.2.2.1)].toArray 48 (0, 0))] := hs22
    refine ops_run 1 (by kernel_rfl) ?_
    refine ops_done (by kernel_rfl) ?_
    refine hK20 _ _ ?_
    clear hK20
    refine W.ret ?_
    obtain rfl := some_inj hm
    have hs24 := St.tk0 hs23
    refine ret_of (.tuple #[(.agg #[(.bool r6.1), (.int .u64 r6.2.1), (.int .u64 r6.2.2.1)]), (.int .i64 p17)]) (resS_of (by kernel_rfl) (resD_two rfl (.agg (ad := ⟨b4, 0, none⟩) (cs := [(.bool r6.1), (.int .u64 r6.2.1), (.int .u64 r6.2.2.1)]) (by kernel_rfl) (by kernel_rfl) (cells_sub (hs23.heapAt 0 rfl) rfl)) (.tmp (by kernel_rfl)))) ⟨_, ⟨rfl, rfl⟩, hs24⟩
  ·
    refine W.seq fun K25 hK25 => ?_
    refine W.region ?_
    refine ops_run 3 (by kernel_rfl) ?_
    rcases Bool.eq_false_or_eq_true (decide (r6.2.2.2 = 0)) with h26 | h26
    ·
      have h26p : r6.2.2.2 = 0 := of_decide_eq_true h26
      replace hm := ite_yes hm h26p
      refine ops_set 18 (v := .bool true) (eq_bool_of (by kernel_rfl) h26) ?_
      refine ops_set 17 (v := .bool true) (eq_bool_of (by kernel_rfl) h26) ?_
      refine ops_run 1 (by kernel_rfl) ?_
      refine ops_R (runs_load (ad := ⟨b13, 0, none⟩) (v := (.bool r6.1)) (by kernel_rfl) (hs16.cellAt 0 rfl rfl)) ?_
      refine ops_run 2 (by kernel_rfl) ?_
      rcases Bool.eq_false_or_eq_true (!r6.1) with h27 | h27
      rotate_left
      ·
        have h27p : r6.1 = true := (bnot_false h27)
        replace hm := ite_yes hm h27p
        refine ops_set 22 (v := .bool false) (eq_bool_of (by kernel_rfl) h27) ?_
        refine ops_set 21 (v := .bool false) (eq_bool_of (by kernel_rfl) h27) ?_
        refine ops_run 1 (by kernel_rfl) ?_
        refine ops_R (runs_load (ad := ⟨b13, 1, none⟩) (v := (.int .u64 r6.2.1)) (by kernel_rfl) (hs16.cellAt 0 rfl rfl)) ?_
        refine ops_run 4 (by kernel_rfl) ?_
        refine ops_done (by kernel_rfl) ?_
        refine hK25 _ _ ?_
        clear hK25
        refine W.cond (!decide (r6.2.1 = g_)) (by kernel_rfl) (fun h28 => ?_) (fun h28 => ?_)
        rotate_left
        ·
          have h28p : r6.2.1 = g_ := of_decide_eq_true (bnot_false h28)
          replace hm := ite_yes hm h28p
          refine W.skip ?_
          have hs29 := St.f1 hs16
          exact ⟨r6.2.2.2, slots_intro _ (by kernel_rfl), hs29, hm⟩
        ·
          have h28p : ¬ (r6.2.1 = g_) := of_decide_eq_false (bnot_true h28)
          replace hm := ite_no hm h28p
          refine W.region ?_
          refine ops_run 1 (by kernel_rfl) ?_
          refine ops_done (by kernel_rfl) ?_
          have hs30 := St.f1 hs16
          exact ⟨22, slots_intro _ (by kernel_rfl), hs30, hm⟩
      ·
        have h27p : ¬ (r6.1 = true) := ne_true_of_eq_false (bnot_true h27)
        replace hm := ite_no hm h27p
        refine ops_set 22 (v := .bool true) (eq_bool_of (by kernel_rfl) h27) ?_
        refine ops_set 21 (v := .bool true) (eq_bool_of (by kernel_rfl) h27) ?_
        refine ops_run 6 (by kernel_rfl) ?_
        refine ops_done (by kernel_rfl) ?_
        refine hK25 _ _ ?_
        clear hK25
        refine W.cond_true true (by kernel_rfl) rfl ?_
        refine W.region ?_
        refine ops_run 1 (by kernel_rfl) ?_
        refine ops_done (by kernel_rfl) ?_
        have hs31 := St.f1 hs16
        exact ⟨22, slots_intro _ (by kernel_rfl), hs31, hm⟩
    ·
      have h26p : ¬ (r6.2.2.2 = 0) := of_decide_eq_false h26
      replace hm := ite_no hm h26p
      refine ops_set 18 (v := .bool false) (eq_bool_of (by kernel_rfl) h26) ?_
      refine ops_set 17 (v := .bool false) (eq_bool_of (by kernel_rfl) h26) ?_
      refine ops_run 10 (by kernel_rfl) ?_
      refine ops_done (by kernel_rfl) ?_
      refine hK25 _ _ ?_
      clear hK25
      refine W.cond_false false (by kernel_rfl) rfl ?_
      refine W.skip ?_
      have hs32 := St.f1 hs16
      exact ⟨r6.2.2.2, slots_intro _ (by kernel_rfl), hs32, hm⟩

end Go.Proofs.YthimamnblklkbaaDoor

/- What the code computes, by a program. -/
namespace Go.Proofs.YthimamnblklkbaaDoor
open Go Go.RowKit
set_option linter.unusedSimpArgs false
set_option linter.unusedVariables false

def cof_J1 (r60 : Int × Int × Int × Int × ByteArray × Int) (p72 : Bool) : Option (Int × Int × Int × Int × ByteArray × Int) :=
  if p72 = true then (some (0, 0, 0, 0, ByteArray.empty, r60.2.2.2.2.2)) else (some (1, r60.2.1, r60.2.2.1, r60.2.2.2.1, r60.2.2.2.2.1, 0))

def cof_M (img : List Int) (l : List (Int × Int)) (i_ : Int) (g_ : Int) (q_ : Int) : Option (Int × Int × Int × Int × ByteArray × Int) :=
  (cmay_M q_ 1).bind fun r14 =>
if r14 = 0 then ((copened_M img l i_ g_).bind fun r22 =>
if r22.2.2.2 = 0 then (if q_ ≤ r22.2.2.1 then (some (2, 0, 0, 0, ByteArray.empty, 0)) else (if ((q_ - r22.2.2.1) % 18446744073709551616) > 4 then (some (3, 0, 0, 0, ByteArray.empty, 0)) else (need (-9223372036854775808 ≤ (q_.tmod 4) ∧ (q_.tmod 4) ≤ 9223372036854775807) <|
(sload_M img l i_ (q_.tmod 4)).bind fun r60 =>
if r60.2.2.2.2.2 = 0 then (cof_J1 r60 (!decide (r60.1 = q_))) else (cof_J1 r60 true)))) else (some (0, 0, 0, 0, ByteArray.empty, r22.2.2.2))) else (some (0, 0, 0, 0, ByteArray.empty, r14))

set_option maxRecDepth 20000 in
set_option maxHeartbeats 2000000 in
set_option linter.unusedVariables false in
theorem cof_walk {img : List Int} {l : List (Int × Int)} {i_ : Int} {g_ : Int} {q_ : Int} {vb : Nat} {r : Int × Int × Int × Int × ByteArray × Int} (B : Nat) (w : World) (hL : CellsAt (some ⟨1, 0, none⟩) [(.int .i64 1), (.int .i64 2), (.int .i64 2)] w) (hv : ViewAt (ptr vb) img l w) (hm : cof_M img l i_ g_ q_ = some r) : Spec Tryd.prog 64 #[(.pointer (some ⟨vb, 0, none⟩)), (.int .i64 i_), (.int .u64 g_), (.int .u64 q_)] B w [] (fun v H' => v = (.tuple #[(.int .u8 r.1), (.agg #[(.int .i64 r.2.1), (.int .u64 r.2.2.1), (.int .u64 r.2.2.2.1), (.string r.2.2.2.2.1)]), (.int .i64 r.2.2.2.2.2)]) ∧ H' = []) := by
  refine spec_Q Tryd.func64 rfl fun hs => ?_
  unfold cof_M at hm
  refine W.seq fun K1 hK1 => ?_
  refine W.region ?_
  refine ops_run 1 (by kernel_rfl) ?_
  refine ops_new (fun b => .pointer (some ⟨b, 0, none⟩)) (.cells [(.int .i64 0), (.int .u64 0), (.int .u64 0), (.string ByteArray.empty)].toArray 46 (0, 0)) hs (by kernel_rfl) (fun b4 w2 hs3 => ?_)
  refine ops_run 1 (by kernel_rfl) ?_
  refine ops_done (by kernel_rfl) ?_
  refine hK1 _ _ ?_
  clear hK1
  refine W.seq fun K5 hK5 => ?_
  refine W.region ?_
  refine ops_run 1 (by kernel_rfl) ?_
  refine ops_new (fun b => .pointer (some ⟨b, 0, none⟩)) (.cells [(.int .i64 0), (.int .u64 0), (.int .u64 0), (.string ByteArray.empty)].toArray 46 (0, 0)) hs3 (by kernel_rfl) (fun b8 w6 hs7 => ?_)
  refine ops_store (off := 0) (cs := [(.int .i64 0), (.int .u64 0), (.int .u64 0), (.string ByteArray.empty)]) (vs := [(.int .i64 0), (.int .u64 0), (.int .u64 0), (.string ByteArray.empty)]) hs7 (by kernel_rfl) (by simp) rfl (fun w9 hs10 => ?_)
  have hs11 : St B w [] w9 [blk b8 (.cells [(.int .i64 0), (.int .u64 0), (.int .u64 0), (.string ByteArray.empty)].toArray 46 (0, 0)), blk b4 (.cells [(.int .i64 0), (.int .u64 0), (.int .u64 0), (.string ByteArray.empty)].toArray 46 (0, 0))] := hs10
  refine ops_done (by kernel_rfl) ?_
  refine hK5 _ _ ?_
  clear hK5
  refine W.seq fun K12 hK12 => ?_
  refine W.seq fun K13 hK13 => ?_
  refine W.region ?_
  refine ops_run 2 (by kernel_rfl) ?_
  obtain ⟨r14, h15, hm⟩ := bind_some hm
  refine ops_call0 hs11 (by kernel_rfl) (cmay_walk (q_ := q_) (t_ := 1) (img := img) (l := l) (hv := (viewAt_old hs11 hv)) (hm := h15) B _) ?_
  rintro _ _ w16 ⟨rfl, rfl⟩ hs17
  have hs18 := St.ap0 hs17
  refine ops_run 1 (by kernel_rfl) ?_
  refine ops_done (by kernel_rfl) ?_
  refine hK13 _ _ ?_
  clear hK13
  refine W.seq fun K19 hK19 => ?_
  refine W.region ?_
  refine ops_run 2 (by kernel_rfl) ?_
  refine ops_done (by kernel_rfl) ?_
  refine hK19 _ _ ?_
  clear hK19
  refine W.cond (!decide (r14 = 0)) (by kernel_rfl) (fun h20 => ?_) (fun h20 => ?_)
  rotate_left
  ·
    have h20p : r14 = 0 := of_decide_eq_true (bnot_false h20)
    replace hm := ite_yes hm h20p
    refine W.skip ?_
    refine hK12 _ _ ?_
    clear hK12
    refine W.seq fun K21 hK21 => ?_
    refine W.region ?_
    refine ops_run 3 (by kernel_rfl) ?_
    obtain ⟨r22, h23, hm⟩ := bind_some hm
    refine ops_call0 hs18 (by kernel_rfl) (copened_walk (i_ := i_) (g_ := g_) (img := img) (l := l) (hL := (hs18.oldCells hL)) (hv := (viewAt_old hs18 hv)) (hm := h23) B _) ?_
    rintro _ _ w24 ⟨rfl, rfl⟩ hs25
    have hs26 := St.ap0 hs25
    refine ops_run 3 (by kernel_rfl) ?_
    refine ops_new (fun b => .pointer (some ⟨b, 0, none⟩)) (.cells [(.bool false), (.int .u64 0), (.int .u64 0)].toArray 48 (0, 0)) hs26 (by kernel_rfl) (fun b29 w27 hs28 => ?_)
    refine ops_store (off := 0) (cs := [(.bool false), (.int .u64 0), (.int .u64 0)]) (vs := [(.bool r22.1), (.int .u64 r22.2.1), (.int .u64 r22.2.2.1)]) hs28 (by kernel_rfl) (by simp) rfl (fun w30 hs31 => ?_)
    have hs32 : St B w [] w30 [blk b29 (.cells [(.bool r22.1), (.int .u64 r22.2.1), (.int .u64 r22.2.2.1)].toArray 48 (0, 0)), blk b8 (.cells [(.int .i64 0), (.int .u64 0), (.int .u64 0), (.string ByteArray.empty)].toArray 46 (0, 0)), blk b4 (.cells [(.int .i64 0), (.int .u64 0), (.int .u64 0), (.string ByteArray.empty)].toArray 46 (0, 0))] := hs31
    refine ops_run 1 (by kernel_rfl) ?_
    refine ops_done (by kernel_rfl) ?_
    refine hK21 _ _ ?_
    clear hK21
    refine W.seq fun K33 hK33 => ?_
    refine W.block ?_
    refine W.seq fun K34 hK34 => ?_
    refine W.region ?_
    refine ops_run 3 (by kernel_rfl) ?_
    refine ops_done (by kernel_rfl) ?_
    refine hK34 _ _ ?_
    clear hK34
    refine W.cond (!decide (r22.2.2.2 = 0)) (by kernel_rfl) (fun h35 => ?_) (fun h35 => ?_)
    rotate_left
    ·
      have h35p : r22.2.2.2 = 0 := of_decide_eq_true (bnot_false h35)
      replace hm := ite_yes hm h35p
      refine W.seq fun K36 hK36 => ?_
      refine W.region ?_
      refine ops_run 2 (by kernel_rfl) ?_
      refine ops_R (runs_load (ad := ⟨b29, 2, none⟩) (v := (.int .u64 r22.2.2.1)) (by kernel_rfl) (hs32.cellAt 0 rfl rfl)) ?_
      refine ops_run 2 (by kernel_rfl) ?_
      refine ops_done (by kernel_rfl) ?_
      refine hK36 _ _ ?_
      clear hK36
      refine W.cond (decide (q_ ≤ r22.2.2.1)) (by kernel_rfl) (fun h37 => ?_) (fun h37 => ?_)
      ·
        have h37p : q_ ≤ r22.2.2.1 := of_decide_eq_true h37
        replace hm := ite_yes hm h37p
        refine W.seq fun K38 hK38 => ?_
        have hs39 := hs32.drew
        refine W.regionD [(0, 0), (0, 0), (3, 1), (7, 0)] (fun w_ => St B w [] w_ [blk b29 (.cells [(.bool r22.1), (.int .u64 r22.2.1), (.int .u64 r22.2.2.1)].toArray 48 (0, 0)), blk b8 (.cells [(.int .i64 0), (.int .u64 0), (.int .u64 0), (.string ByteArray.empty)].toArray 46 (0, 0)), blk b4 (.cells [(.int .i64 0), (.int .u64 0), (.int .u64 0), (.string ByteArray.empty)].toArray 46 (0, 0))]) (by kernel_rfl) hs39 ?_
        refine any_R 0 (by kernel_rfl) (fun _ hS_ => runs_loadAgg (ad := ⟨b8, 0, none⟩) (cs := [(.int .i64 0), (.int .u64 0), (.int .u64 0), (.string ByteArray.empty)]) (by kernel_rfl) (cells_sub (hS_.heapAt 1 rfl) rfl)) hs39 ?_
        refine any_val (v := (.int .u8 2)) (v' := (.int .u8 2)) 1 (by kernel_rfl) (fun _ => by kernel_rfl) rfl hs39 ?_
        refine any_step 2 (by kernel_rfl) (by kernel_rfl) ?_
        have hs42 := St.f2 hs39
        refine ops_store (off := 0) (cs := [(.int .i64 0), (.int .u64 0), (.int .u64 0), (.string ByteArray.empty)]) (vs := [(.int .i64 0), (.int .u64 0), (.int .u64 0), (.string ByteArray.empty)]) hs42 (by kernel_rfl) (by simp) rfl (fun w40 hs41 => ?_)
        have hs43 : St B w [] w40 [blk b4 (.cells [(.int .i64 0), (.int .u64 0), (.int .u64 0), (.string ByteArray.empty)].toArray 46 (0, 0)), blk b29 (.cells [(.bool r22.1), (.int .u64 r22.2.1), (.int .u64 r22.2.2.1)].toArray 48 (0, 0)), blk b8 (.cells [(.int .i64 0), (.int .u64 0), (.int .u64 0), (.string ByteArray.empty)].toArray 46 (0, 0))] := hs41
        have hs44 := St.f2 hs43
        have hs45 := St.f2 hs44
        refine ops_done (by kernel_rfl) ⟨hs45, ?_⟩
        refine any_val (v := (.int .i64 0)) (v' := (.int .i64 0)) 3 (by kernel_rfl) (fun _ => by kernel_rfl) rfl hs45 ?_
        refine any_done (by kernel_rfl) ?_
        refine hK38 _ _ ?_
        clear hK38
        refine W.ret (ret_block (ret_seq ?_))
        obtain rfl := some_inj hm
        have hs46 := St.tk0 hs43
        refine ret_of (.tuple #[(.int .u8 2), (.agg #[(.int .i64 0), (.int .u64 0), (.int .u64 0), (.string ByteArray.empty)]), (.int .i64 0)]) (resS_of (by kernel_rfl) (resD_three rfl (.tmp (by kernel_rfl)) (.agg (ad := ⟨b4, 0, none⟩) (cs := [(.int .i64 0), (.int .u64 0), (.int .u64 0), (.string ByteArray.empty)]) (by kernel_rfl) (by kernel_rfl) (cells_sub (hs43.heapAt 0 rfl) rfl)) (.tmp (by kernel_rfl)))) ⟨_, ⟨rfl, rfl⟩, hs46⟩
      ·
        have h37p : ¬ (q_ ≤ r22.2.2.1) := of_decide_eq_false h37
        replace hm := ite_no hm h37p
        refine W.seq fun K47 hK47 => ?_
        refine W.region ?_
        refine ops_run 2 (by kernel_rfl) ?_
        refine ops_R (runs_load (ad := ⟨b29, 2, none⟩) (v := (.int .u64 r22.2.2.1)) (by kernel_rfl) (hs32.cellAt 0 rfl rfl)) ?_
        refine ops_val (v := .int .u64 (IntKind.u64.wrap (q_ - r22.2.2.1))) (v' := .int .u64 ((q_ - r22.2.2.1) % 18446744073709551616)) (by kernel_rfl) (congrArg (Value.int .u64) (wrap_u64_mod _)) ?_
        refine ops_run 2 (by kernel_rfl) ?_
        refine ops_done (by kernel_rfl) ?_
        refine hK47 _ _ ?_
        clear hK47
        refine W.cond (decide (((q_ - r22.2.2.1) % 18446744073709551616) > 4)) (by kernel_rfl) (fun h48 => ?_) (fun h48 => ?_)
        ·
          have h48p : ((q_ - r22.2.2.1) % 18446744073709551616) > 4 := of_decide_eq_true h48
          replace hm := ite_yes hm h48p
          refine W.seq fun K49 hK49 => ?_
          have hs50 := hs32.drew
          refine W.regionD [(0, 0), (0, 0), (3, 1), (7, 0)] (fun w_ => St B w [] w_ [blk b29 (.cells [(.bool r22.1), (.int .u64 r22.2.1), (.int .u64 r22.2.2.1)].toArray 48 (0, 0)), blk b8 (.cells [(.int .i64 0), (.int .u64 0), (.int .u64 0), (.string ByteArray.empty)].toArray 46 (0, 0)), blk b4 (.cells [(.int .i64 0), (.int .u64 0), (.int .u64 0), (.string ByteArray.empty)].toArray 46 (0, 0))]) (by kernel_rfl) hs50 ?_
          refine any_R 0 (by kernel_rfl) (fun _ hS_ => runs_loadAgg (ad := ⟨b8, 0, none⟩) (cs := [(.int .i64 0), (.int .u64 0), (.int .u64 0), (.string ByteArray.empty)]) (by kernel_rfl) (cells_sub (hS_.heapAt 1 rfl) rfl)) hs50 ?_
          refine any_val (v := (.int .u8 3)) (v' := (.int .u8 3)) 1 (by kernel_rfl) (fun _ => by kernel_rfl) rfl hs50 ?_
          refine any_step 2 (by kernel_rfl) (by kernel_rfl) ?_
          have hs53 := St.f2 hs50
          refine ops_store (off := 0) (cs := [(.int .i64 0), (.int .u64 0), (.int .u64 0), (.string ByteArray.empty)]) (vs := [(.int .i64 0), (.int .u64 0), (.int .u64 0), (.string ByteArray.empty)]) hs53 (by kernel_rfl) (by simp) rfl (fun w51 hs52 => ?_)
          have hs54 : St B w [] w51 [blk b4 (.cells [(.int .i64 0), (.int .u64 0), (.int .u64 0), (.string ByteArray.empty)].toArray 46 (0, 0)), blk b29 (.cells [(.bool r22.1), (.int .u64 r22.2.1), (.int .u64 r22.2.2.1)].toArray 48 (0, 0)), blk b8 (.cells [(.int .i64 0), (.int .u64 0), (.int .u64 0), (.string ByteArray.empty)].toArray 46 (0, 0))] := hs52
          have hs55 := St.f2 hs54
          have hs56 := St.f2 hs55
          refine ops_done (by kernel_rfl) ⟨hs56, ?_⟩
          refine any_val (v := (.int .i64 0)) (v' := (.int .i64 0)) 3 (by kernel_rfl) (fun _ => by kernel_rfl) rfl hs56 ?_
          refine any_done (by kernel_rfl) ?_
          refine hK49 _ _ ?_
          clear hK49
          refine W.ret (ret_block (ret_seq ?_))
          obtain rfl := some_inj hm
          have hs57 := St.tk0 hs54
          refine ret_of (.tuple #[(.int .u8 3), (.agg #[(.int .i64 0), (.int .u64 0), (.int .u64 0), (.string ByteArray.empty)]), (.int .i64 0)]) (resS_of (by kernel_rfl) (resD_three rfl (.tmp (by kernel_rfl)) (.agg (ad := ⟨b4, 0, none⟩) (cs := [(.int .i64 0), (.int .u64 0), (.int .u64 0), (.string ByteArray.empty)]) (by kernel_rfl) (by kernel_rfl) (cells_sub (hs54.heapAt 0 rfl) rfl)) (.tmp (by kernel_rfl)))) ⟨_, ⟨rfl, rfl⟩, hs57⟩
        ·
          have h48p : ¬ (((q_ - r22.2.2.1) % 18446744073709551616) > 4) := of_decide_eq_false h48
          replace hm := ite_no hm h48p
          refine W.skip ?_
          refine normal_block ?_
          refine hK33 _ _ ?_
          clear hK33
          refine W.seq fun K58 hK58 => ?_
          refine W.region ?_
          refine ops_run 4 (by kernel_rfl) ?_
          obtain ⟨h59, hm⟩ := need_some hm
          refine ops_val (v := .int .i64 (IntKind.i64.wrap (q_.tmod 4))) (v' := .int .i64 (q_.tmod 4)) (by kernel_rfl) (congrArg (Value.int .i64) (wrap_i64 h59.1 h59.2)) ?_
          obtain ⟨r60, h61, hm⟩ := bind_some hm
          refine ops_call0 hs32 (by kernel_rfl) (sload_walk (i_ := i_) (k_ := q_.tmod 4) (img := img) (l := l) (hL := (hs32.oldCells hL)) (hv := (viewAt_old hs32 hv)) (hm := h61) B _) ?_
          rintro _ _ w62 ⟨rfl, rfl⟩ hs63
          have hs64 := St.ap0 hs63
          refine ops_run 4 (by kernel_rfl) ?_
          refine ops_new (fun b => .pointer (some ⟨b, 0, none⟩)) (.cells [(.int .i64 0), (.int .u64 0), (.int .u64 0), (.string ByteArray.empty)].toArray 46 (0, 0)) hs64 (by kernel_rfl) (fun b67 w65 hs66 => ?_)
          refine ops_run 1 (by kernel_rfl) ?_
          refine ops_store (off := 0) (cs := [(.int .i64 0), (.int .u64 0), (.int .u64 0), (.string ByteArray.empty)]) (vs := [(.int .i64 r60.2.1), (.int .u64 r60.2.2.1), (.int .u64 r60.2.2.2.1), (.string r60.2.2.2.2.1)]) hs66 (by kernel_rfl) (by simp) rfl (fun w68 hs69 => ?_)
          have hs70 : St B w [] w68 [blk b67 (.cells [(.int .i64 r60.2.1), (.int .u64 r60.2.2.1), (.int .u64 r60.2.2.2.1), (.string r60.2.2.2.2.1)].toArray 46 (0, 0)), blk b29 (.cells [(.bool r22.1), (.int .u64 r22.2.1), (.int .u64 r22.2.2.1)].toArray 48 (0, 0)), blk b8 (.cells [(.int .i64 0), (.int .u64 0), (.int .u64 0), (.string ByteArray.empty)].toArray 46 (0, 0)), blk b4 (.cells [(.int .i64 0), (.int .u64 0), (.int .u64 0), (.string ByteArray.empty)].toArray 46 (0, 0))] := hs69
          refine ops_run 1 (by kernel_rfl) ?_
          refine ops_done (by kernel_rfl) ?_
          refine hK58 _ _ ?_
          clear hK58
          refine W.seq fun K71 hK71 => ?_
          refine W.seq_join (fun s_ w_ => ∃ (p72 : Bool), (∃ us, s_ = slots 70 [(9, (.pointer (some ⟨b4, 0, none⟩))), (11, (.pointer (some ⟨b8, 0, none⟩))), (14, (.int .i64 r60.2.2.2.2.2)), (16, (.pointer (some ⟨b67, 0, none⟩))), (66, (.bool p72))] us) ∧ St B w [] w_ [blk b4 (.cells [(.int .i64 0), (.int .u64 0), (.int .u64 0), (.string ByteArray.empty)].toArray 46 (0, 0)), blk b8 (.cells [(.int .i64 0), (.int .u64 0), (.int .u64 0), (.string ByteArray.empty)].toArray 46 (0, 0)), blk b67 (.cells [(.int .i64 r60.2.1), (.int .u64 r60.2.2.1), (.int .u64 r60.2.2.2.1), (.string r60.2.2.2.2.1)].toArray 46 (0, 0)), blk b29 (.cells [(.bool r22.1), (.int .u64 r22.2.1), (.int .u64 r22.2.2.1)].toArray 48 (0, 0))] ∧ cof_J1 r60 p72 = some r) ?_ ?_
          ·
            rintro _ w73 ⟨p72, ⟨us, rfl⟩, hs74, hm⟩
            unfold cof_J1 at hm
            refine W.cond p72 (by kernel_rfl) (fun h75 => ?_) (fun h75 => ?_)
            ·
              have h75p : p72 = true := h75
              replace hm := ite_yes hm h75p
              refine W.seq fun K76 hK76 => ?_
              have hs77 := hs74.drew
              refine W.regionD [(0, 0), (0, 0), (0, 0), (5, 1), (15, 2)] (fun w_ => St B w [] w_ [blk b4 (.cells [(.int .i64 0), (.int .u64 0), (.int .u64 0), (.string ByteArray.empty)].toArray 46 (0, 0)), blk b8 (.cells [(.int .i64 0), (.int .u64 0), (.int .u64 0), (.string ByteArray.empty)].toArray 46 (0, 0)), blk b67 (.cells [(.int .i64 r60.2.1), (.int .u64 r60.2.2.1), (.int .u64 r60.2.2.2.1), (.string r60.2.2.2.2.1)].toArray 46 (0, 0)), blk b29 (.cells [(.bool r22.1), (.int .u64 r22.2.1), (.int .u64 r22.2.2.1)].toArray 48 (0, 0))]) (by kernel_rfl) hs77 ?_
              refine any_R 0 (by kernel_rfl) (fun _ hS_ => runs_loadAgg (ad := ⟨b8, 0, none⟩) (cs := [(.int .i64 0), (.int .u64 0), (.int .u64 0), (.string ByteArray.empty)]) (by kernel_rfl) (cells_sub (hS_.heapAt 1 rfl) rfl)) hs77 ?_
              refine any_val (v := (.int .i64 r60.2.2.2.2.2)) (v' := (.int .i64 r60.2.2.2.2.2)) 1 (by kernel_rfl) (fun _ => by kernel_rfl) rfl hs77 ?_
              refine any_val (v := (.int .u8 0)) (v' := (.int .u8 0)) 2 (by kernel_rfl) (fun _ => by kernel_rfl) rfl hs77 ?_
              refine any_step 3 (by kernel_rfl) (by kernel_rfl) ?_
              refine ops_store (off := 0) (cs := [(.int .i64 0), (.int .u64 0), (.int .u64 0), (.string ByteArray.empty)]) (vs := [(.int .i64 0), (.int .u64 0), (.int .u64 0), (.string ByteArray.empty)]) hs77 (by kernel_rfl) (by simp) rfl (fun w78 hs79 => ?_)
              have hs80 : St B w [] w78 [blk b4 (.cells [(.int .i64 0), (.int .u64 0), (.int .u64 0), (.string ByteArray.empty)].toArray 46 (0, 0)), blk b8 (.cells [(.int .i64 0), (.int .u64 0), (.int .u64 0), (.string ByteArray.empty)].toArray 46 (0, 0)), blk b67 (.cells [(.int .i64 r60.2.1), (.int .u64 r60.2.2.1), (.int .u64 r60.2.2.2.1), (.string r60.2.2.2.2.1)].toArray 46 (0, 0)), blk b29 (.cells [(.bool r22.1), (.int .u64 r22.2.1), (.int .u64 r22.2.2.1)].toArray 48 (0, 0))] := hs79
              refine ops_done (by kernel_rfl) ⟨hs80, ?_⟩
              refine any_val (v := (.int .i64 r60.2.2.2.2.2)) (v' := (.int .i64 r60.2.2.2.2.2)) 4 (by kernel_rfl) (fun _ => by kernel_rfl) rfl hs80 ?_
              refine any_done (by kernel_rfl) ?_
              refine hK76 _ _ ?_
              clear hK76
              refine W.ret (ret_seq ?_)
              obtain rfl := some_inj hm
              have hs81 := St.tk0 hs80
              refine ret_of (.tuple #[(.int .u8 0), (.agg #[(.int .i64 0), (.int .u64 0), (.int .u64 0), (.string ByteArray.empty)]), (.int .i64 r60.2.2.2.2.2)]) (resS_of (by kernel_rfl) (resD_three rfl (.tmp (by kernel_rfl)) (.agg (ad := ⟨b4, 0, none⟩) (cs := [(.int .i64 0), (.int .u64 0), (.int .u64 0), (.string ByteArray.empty)]) (by kernel_rfl) (by kernel_rfl) (cells_sub (hs80.heapAt 0 rfl) rfl)) (.tmp (by kernel_rfl)))) ⟨_, ⟨rfl, rfl⟩, hs81⟩
            ·
              have h75p : ¬ (p72 = true) := ne_true_of_eq_false h75
              replace hm := ite_no hm h75p
              refine W.skip ?_
              refine hK71 _ _ ?_
              clear hK71
              refine W.seq fun K82 hK82 => ?_
              have hs83 := hs74.drew
              have hs84 := St.f3 hs83
              have hs85 := St.f3 hs84
              have hs86 := St.f3 hs85
              have hs87 := St.tk3 hs86
              refine W.regionD [(0, 0), (0, 0), (3, 1), (7, 0)] (fun w_ => St B w [] w_ [blk b8 (.cells [(.int .i64 0), (.int .u64 0), (.int .u64 0), (.string ByteArray.empty)].toArray 46 (0, 0)), blk b67 (.cells [(.int .i64 r60.2.1), (.int .u64 r60.2.2.1), (.int .u64 r60.2.2.2.1), (.string r60.2.2.2.2.1)].toArray 46 (0, 0)), blk b29 (.cells [(.bool r22.1), (.int .u64 r22.2.1), (.int .u64 r22.2.2.1)].toArray 48 (0, 0))]) (by kernel_rfl) hs87 ?_
              refine any_R 0 (by kernel_rfl) (fun _ hS_ => runs_loadAgg (ad := ⟨b67, 0, none⟩) (cs := [(.int .i64 r60.2.1), (.int .u64 r60.2.2.1), (.int .u64 r60.2.2.2.1), (.string r60.2.2.2.2.1)]) (by kernel_rfl) (cells_sub (hS_.heapAt 1 rfl) rfl)) hs87 ?_
              refine any_val (v := (.int .u8 1)) (v' := (.int .u8 1)) 1 (by kernel_rfl) (fun _ => by kernel_rfl) rfl hs87 ?_
              refine any_step 2 (by kernel_rfl) (by kernel_rfl) ?_
              refine ops_store (off := 0) (cs := [(.int .i64 0), (.int .u64 0), (.int .u64 0), (.string ByteArray.empty)]) (vs := [(.int .i64 r60.2.1), (.int .u64 r60.2.2.1), (.int .u64 r60.2.2.2.1), (.string r60.2.2.2.2.1)]) hs83 (by kernel_rfl) (by simp) rfl (fun w88 hs89 => ?_)
              have hs90 : St B w [] w88 [blk b4 (.cells [(.int .i64 r60.2.1), (.int .u64 r60.2.2.1), (.int .u64 r60.2.2.2.1), (.string r60.2.2.2.2.1)].toArray 46 (0, 0)), blk b8 (.cells [(.int .i64 0), (.int .u64 0), (.int .u64 0), (.string ByteArray.empty)].toArray 46 (0, 0)), blk b67 (.cells [(.int .i64 r60.2.1), (.int .u64 r60.2.2.1), (.int .u64 r60.2.2.2.1), (.string r60.2.2.2.2.1)].toArray 46 (0, 0)), blk b29 (.cells [(.bool r22.1), (.int .u64 r22.2.1), (.int .u64 r22.2.2.1)].toArray 48 (0, 0))] := hs89
              have hs91 := St.f3 hs90
              have hs92 := St.f3 hs91
              have hs93 := St.f3 hs92
              have hs94 := St.tk3 hs93
              refine ops_done (by kernel_rfl) ⟨hs94, ?_⟩
              refine any_val (v := (.int .i64 0)) (v' := (.int .i64 0)) 3 (by kernel_rfl) (fun _ => by kernel_rfl) rfl hs94 ?_
              refine any_done (by kernel_rfl) ?_
              refine hK82 _ _ ?_
              clear hK82
              refine W.ret ?_
              obtain rfl := some_inj hm
              have hs95 := St.tk0 hs90
              refine ret_of (.tuple #[(.int .u8 1), (.agg #[(.int .i64 r60.2.1), (.int .u64 r60.2.2.1), (.int .u64 r60.2.2.2.1), (.string r60.2.2.2.2.1)]), (.int .i64 0)]) (resS_of (by kernel_rfl) (resD_three rfl (.tmp (by kernel_rfl)) (.agg (ad := ⟨b4, 0, none⟩) (cs := [(.int .i64 r60.2.1), (.int .u64 r60.2.2.1), (.int .u64 r60.2.2.2.1), (.string r60.2.2.2.2.1)]) (by kernel_rfl) (by kernel_rfl) (cells_sub (hs90.heapAt 0 rfl) rfl)) (.tmp (by kernel_rfl)))) ⟨_, ⟨rfl, rfl⟩, hs95⟩
          ·
            refine W.region ?_
            refine ops_run 3 (by kernel_rfl) ?_
            rcases Bool.eq_false_or_eq_true (!decide (r60.2.2.2.2.2 = 0)) with h96 | h96
            rotate_left
            ·
              have h96p : r60.2.2.2.2.2 = 0 := of_decide_eq_true (bnot_false h96)
              replace hm := ite_yes hm h96p
              refine ops_set 62 (v := .bool false) (eq_bool_of (by kernel_rfl) h96) ?_
              refine ops_set 61 (v := .bool false) (eq_bool_of (by kernel_rfl) h96) ?_
              refine ops_run 4 (by kernel_rfl) ?_
              refine ops_done (by kernel_rfl) ?_
              have hs97 := St.f1 hs70
              have hs98 := St.f1 hs97
              have hs99 := St.f2 hs98
              have hs100 := St.f3 hs99
              exact ⟨(!decide (r60.1 = q_)), slots_intro _ (by kernel_rfl), hs100, hm⟩
            ·
              have h96p : ¬ (r60.2.2.2.2.2 = 0) := of_decide_eq_false (bnot_true h96)
              replace hm := ite_no hm h96p
              refine ops_set 62 (v := .bool true) (eq_bool_of (by kernel_rfl) h96) ?_
              refine ops_set 61 (v := .bool true) (eq_bool_of (by kernel_rfl) h96) ?_
              refine ops_run 4 (by kernel_rfl) ?_
              refine ops_done (by kernel_rfl) ?_
              have hs101 := St.f1 hs70
              have hs102 := St.f1 hs101
              have hs103 := St.f2 hs102
              have hs104 := St.f3 hs103
              exact ⟨true, slots_intro _ (by kernel_rfl), hs104, hm⟩
    ·
      have h35p : ¬ (r22.2.2.2 = 0) := of_decide_eq_false (bnot_true h35)
      replace hm := ite_no hm h35p
      refine W.seq fun K105 hK105 => ?_
      have hs106 := hs32.drew
      refine W.regionD [(0, 0), (0, 0), (0, 0), (5, 1), (15, 2)] (fun w_ => St B w [] w_ [blk b29 (.cells [(.bool r22.1), (.int .u64 r22.2.1), (.int .u64 r22.2.2.1)].toArray 48 (0, 0)), blk b8 (.cells [(.int .i64 0), (.int .u64 0), (.int .u64 0), (.string ByteArray.empty)].toArray 46 (0, 0)), blk b4 (.cells [(.int .i64 0), (.int .u64 0), (.int .u64 0), (.string ByteArray.empty)].toArray 46 (0, 0))]) (by kernel_rfl) hs106 ?_
      refine any_R 0 (by kernel_rfl) (fun _ hS_ => runs_loadAgg (ad := ⟨b8, 0, none⟩) (cs := [(.int .i64 0), (.int .u64 0), (.int .u64 0), (.string ByteArray.empty)]) (by kernel_rfl) (cells_sub (hS_.heapAt 1 rfl) rfl)) hs106 ?_
      refine any_val (v := (.int .i64 r22.2.2.2)) (v' := (.int .i64 r22.2.2.2)) 1 (by kernel_rfl) (fun _ => by kernel_rfl) rfl hs106 ?_
      refine any_val (v := (.int .u8 0)) (v' := (.int .u8 0)) 2 (by kernel_rfl) (fun _ => by kernel_rfl) rfl hs106 ?_
      refine any_step 3 (by kernel_rfl) (by kernel_rfl) ?_
      have hs109 := St.f2 hs106
      refine ops_store (off := 0) (cs := [(.int .i64 0), (.int .u64 0), (.int .u64 0), (.string ByteArray.empty)]) (vs := [(.int .i64 0), (.int .u64 0), (.int .u64 0), (.string ByteArray.empty)]) hs109 (by kernel_rfl) (by simp) rfl (fun w107 hs108 => ?_)
      have hs110 : St B w [] w107 [blk b4 (.cells [(.int .i64 0), (.int .u64 0), (.int .u64 0), (.string ByteArray.empty)].toArray 46 (0, 0)), blk b29 (.cells [(.bool r22.1), (.int .u64 r22.2.1), (.int .u64 r22.2.2.1)].toArray 48 (0, 0)), blk b8 (.cells [(.int .i64 0), (.int .u64 0), (.int .u64 0), (.string ByteArray.empty)].toArray 46 (0, 0))] := hs108
      have hs111 := St.f2 hs110
      have hs112 := St.f2 hs111
      refine ops_done (by kernel_rfl) ⟨hs112, ?_⟩
      refine any_val (v := (.int .i64 r22.2.2.2)) (v' := (.int .i64 r22.2.2.2)) 4 (by kernel_rfl) (fun _ => by kernel_rfl) rfl hs112 ?_
      refine any_done (by kernel_rfl) ?_
      refine hK105 _ _ ?_
      clear hK105
      refine W.ret (ret_block (ret_seq ?_))
      obtain rfl := some_inj hm
      have hs113 := St.tk0 hs110
      refine ret_of (.tuple #[(.int .u8 0), (.agg #[(.int .i64 0), (.int .u64 0), (.int .u64 0), (.string ByteArray.empty)]), (.int .i64 r22.2.2.2)]) (resS_of (by kernel_rfl) (resD_three rfl (.tmp (by kernel_rfl)) (.agg (ad := ⟨b4, 0, none⟩) (cs := [(.int .i64 0), (.int .u64 0), (.int .u64 0), (.string ByteArray.empty)]) (by kernel_rfl) (by kernel_rfl) (cells_sub (hs110.heapAt 0 rfl) rfl)) (.tmp (by kernel_rfl)))) ⟨_, ⟨rfl, rfl⟩, hs113⟩
  ·
    have h20p : ¬ (r14 = 0) := of_decide_eq_false (bnot_true h20)
    replace hm := ite_no hm h20p
    refine W.seq fun K114 hK114 => ?_
    have hs115 := hs18.drew
    refine W.regionD [(0, 0), (0, 0), (0, 0), (5, 1), (15, 2)] (fun w_ => St B w [] w_ [blk b8 (.cells [(.int .i64 0), (.int .u64 0), (.int .u64 0), (.string ByteArray.empty)].toArray 46 (0, 0)), blk b4 (.cells [(.int .i64 0), (.int .u64 0), (.int .u64 0), (.string ByteArray.empty)].toArray 46 (0, 0))]) (by kernel_rfl) hs115 ?_
    refine any_R 0 (by kernel_rfl) (fun _ hS_ => runs_loadAgg (ad := ⟨b8, 0, none⟩) (cs := [(.int .i64 0), (.int .u64 0), (.int .u64 0), (.string ByteArray.empty)]) (by kernel_rfl) (cells_sub (hS_.heapAt 0 rfl) rfl)) hs115 ?_
    refine any_val (v := (.int .i64 r14)) (v' := (.int .i64 r14)) 1 (by kernel_rfl) (fun _ => by kernel_rfl) rfl hs115 ?_
    refine any_val (v := (.int .u8 0)) (v' := (.int .u8 0)) 2 (by kernel_rfl) (fun _ => by kernel_rfl) rfl hs115 ?_
    refine any_step 3 (by kernel_rfl) (by kernel_rfl) ?_
    have hs118 := St.f1 hs115
    refine ops_store (off := 0) (cs := [(.int .i64 0), (.int .u64 0), (.int .u64 0), (.string ByteArray.empty)]) (vs := [(.int .i64 0), (.int .u64 0), (.int .u64 0), (.string ByteArray.empty)]) hs118 (by kernel_rfl) (by simp) rfl (fun w116 hs117 => ?_)
    have hs119 : St B w [] w116 [blk b4 (.cells [(.int .i64 0), (.int .u64 0), (.int .u64 0), (.string ByteArray.empty)].toArray 46 (0, 0)), blk b8 (.cells [(.int .i64 0), (.int .u64 0), (.int .u64 0), (.string ByteArray.empty)].toArray 46 (0, 0))] := hs117
    have hs120 := St.f1 hs119
    refine ops_done (by kernel_rfl) ⟨hs120, ?_⟩
    refine any_val (v := (.int .i64 r14)) (v' := (.int .i64 r14)) 4 (by kernel_rfl) (fun _ => by kernel_rfl) rfl hs120 ?_
    refine any_done (by kernel_rfl) ?_
    refine hK114 _ _ ?_
    clear hK114
    refine W.ret (ret_seq ?_)
    obtain rfl := some_inj hm
    have hs121 := St.tk0 hs119
    refine ret_of (.tuple #[(.int .u8 0), (.agg #[(.int .i64 0), (.int .u64 0), (.int .u64 0), (.string ByteArray.empty)]), (.int .i64 r14)]) (resS_of (by kernel_rfl) (resD_three rfl (.tmp (by kernel_rfl)) (.agg (ad := ⟨b4, 0, none⟩) (cs := [(.int .i64 0), (.int .u64 0), (.int .u64 0), (.string ByteArray.empty)]) (by kernel_rfl) (by kernel_rfl) (cells_sub (hs119.heapAt 0 rfl) rfl)) (.tmp (by kernel_rfl)))) ⟨_, ⟨rfl, rfl⟩, hs121⟩

def cack_J1 (img : List Int) (l : List (Int × Int)) (i_ : Int) (r12 : Bool × Int × Int × Int) (p26 : Int) : Option (Int × Int × List (Int × Int)) :=
  (sput_M img l i_ r12.1 r12.2.1 p26).bind fun r31 =>
if r31.1 = 0 then (some (p26, 0, r31.2)) else (some (0, r31.1, r31.2))

def cack_B0 (img : List Int) (l : List (Int × Int)) (i_ : Int) (q_ : Int) (r12 : Bool × Int × Int × Int) (k43 : Int → Option (Int × Int × List (Int × Int))) (p42 : Int) : Option (Int × Int × List (Int × Int)) :=
  if p42 < q_ then ((some ((p42 + 1) % 18446744073709551616)).bind fun r52 =>
need (-9223372036854775808 ≤ (r52.tmod 4) ∧ (r52.tmod 4) ≤ 9223372036854775807) <|
(sload_M img l i_ (r52.tmod 4)).bind fun r56 =>
if r56.2.2.2.2.2 = 0 then (if r56.1 = r52 then (k43 r52) else (cack_J1 img l i_ r12 p42)) else (some (0, r56.2.2.2.2.2, l))) else (cack_J1 img l i_ r12 p42)

def cack_M (img : List Int) (l : List (Int × Int)) (i_ : Int) (g_ : Int) (q_ : Int) : Option (Int × Int × List (Int × Int)) :=
  (cmay_M q_ 0).bind fun r4 =>
if r4 = 0 then ((copened_M img l i_ g_).bind fun r12 =>
if r12.2.2.2 = 0 then (iter (fun k_ s_ => cack_B0 img l i_ q_ r12 k_ s_) FUEL r12.2.2.1) else (some (0, r12.2.2.2, l))) else (some (0, r4, l))

set_option maxRecDepth 20000 in
set_option maxHeartbeats 2000000 in
set_option linter.unusedVariables false in
theorem cack_walk {img : List Int} {l : List (Int × Int)} {i_ : Int} {g_ : Int} {q_ : Int} {vb : Nat} {r : Int × Int × List (Int × Int)} (B : Nat) (w : World) (hG2 : 1 < B) (hL : CellsAt (some ⟨1, 0, none⟩) [(.int .i64 1), (.int .i64 2), (.int .i64 2)] w) (hm : cack_M img l i_ g_ q_ = some r) : Spec Tryd.prog 68 #[(.pointer (some ⟨vb, 0, none⟩)), (.int .i64 i_), (.int .u64 g_), (.int .u64 q_)] B w [viewA (ptr vb) img l] (fun v H' => v = (.tuple #[(.int .u64 r.1), (.int .i64 r.2.1)]) ∧ H' = [viewA (ptr vb) img r.2.2]) := by
  refine spec_W Tryd.func68 rfl fun l0 hs => ?_
  unfold cack_M at hm
  refine W.seq fun K1 hK1 => ?_
  refine W.region ?_
  refine ops_run 2 (by kernel_rfl) ?_
  refine ops_done (by kernel_rfl) ?_
  refine hK1 _ _ ?_
  clear hK1
  refine W.seq fun K2 hK2 => ?_
  refine W.seq fun K3 hK3 => ?_
  refine W.region ?_
  refine ops_run 2 (by kernel_rfl) ?_
  obtain ⟨r4, h5, hm⟩ := bind_some hm
  refine ops_call0 hs (by kernel_rfl) (cmay_walk (q_ := q_) (t_ := 0) (img := img) (l := l) (hv := (hs.entAt 0 rfl viewA_at)) (hm := h5) B _) ?_
  rintro _ _ w6 ⟨rfl, rfl⟩ hs7
  have hs8 := St.ap0 hs7
  refine ops_run 1 (by kernel_rfl) ?_
  refine ops_done (by kernel_rfl) ?_
  refine hK3 _ _ ?_
  clear hK3
  refine W.seq fun K9 hK9 => ?_
  refine W.region ?_
  refine ops_run 2 (by kernel_rfl) ?_
  refine ops_done (by kernel_rfl) ?_
  refine hK9 _ _ ?_
  clear hK9
  refine W.cond (!decide (r4 = 0)) (by kernel_rfl) (fun h10 => ?_) (fun h10 => ?_)
  rotate_left
  ·
    have h10p : r4 = 0 := of_decide_eq_true (bnot_false h10)
    replace hm := ite_yes hm h10p
    refine W.skip ?_
    refine hK2 _ _ ?_
    clear hK2
    refine W.seq fun K11 hK11 => ?_
    refine W.region ?_
    refine ops_run 3 (by kernel_rfl) ?_
    obtain ⟨r12, h13, hm⟩ := bind_some hm
    refine ops_call0 hs8 (by kernel_rfl) (copened_walk (i_ := i_) (g_ := g_) (img := img) (l := l) (hL := (hs8.oldCellsB hG2 hL)) (hv := (hs8.entAt 0 rfl viewA_at)) (hm := h13) B _) ?_
    rintro _ _ w14 ⟨rfl, rfl⟩ hs15
    have hs16 := St.ap0 hs15
    refine ops_run 3 (by kernel_rfl) ?_
    refine ops_new (fun b => .pointer (some ⟨b, 0, none⟩)) (.cells [(.bool false), (.int .u64 0), (.int .u64 0)].toArray 48 (0, 0)) hs16 (by kernel_rfl) (fun b19 w17 hs18 => ?_)
    refine ops_store (off := 0) (cs := [(.bool false), (.int .u64 0), (.int .u64 0)]) (vs := [(.bool r12.1), (.int .u64 r12.2.1), (.int .u64 r12.2.2.1)]) hs18 (by kernel_rfl) (by simp) rfl (fun w20 hs21 => ?_)
    have hs22 : St B w l0 w20 [blk b19 (.cells [(.bool r12.1), (.int .u64 r12.2.1), (.int .u64 r12.2.2.1)].toArray 48 (0, 0)), viewA (ptr vb) img l] := hs21
    refine ops_run 1 (by kernel_rfl) ?_
    refine ops_done (by kernel_rfl) ?_
    refine hK11 _ _ ?_
    clear hK11
    refine W.seq fun K23 hK23 => ?_
    refine W.seq fun K24 hK24 => ?_
    refine W.region ?_
    refine ops_run 2 (by kernel_rfl) ?_
    refine ops_done (by kernel_rfl) ?_
    refine hK24 _ _ ?_
    clear hK24
    refine W.cond (!decide (r12.2.2.2 = 0)) (by kernel_rfl) (fun h25 => ?_) (fun h25 => ?_)
    rotate_left
    ·
      have h25p : r12.2.2.2 = 0 := of_decide_eq_true (bnot_false h25)
      replace hm := ite_yes hm h25p
      refine W.skip ?_
      refine hK23 _ _ ?_
      clear hK23
      refine W.seq_join (fun s_ w_ => ∃ (p26 : Int), (∃ us, s_ = slots 67 [(0, (.pointer (some ⟨vb, 0, none⟩))), (1, (.int .i64 i_)), (11, (.pointer (some ⟨b19, 0, none⟩)))] us) ∧ St B w l0 w_ [viewA (ptr vb) img l, blk b19 (.cells [(.bool r12.1), (.int .u64 r12.2.1), (.int .u64 p26)].toArray 48 (0, 0))] ∧ cack_J1 img l i_ r12 p26 = some r) ?_ ?_
      ·
        rintro _ w27 ⟨p26, ⟨us, rfl⟩, hs28, hm⟩
        unfold cack_J1 at hm
        refine W.seq fun K29 hK29 => ?_
        refine W.seq fun K30 hK30 => ?_
        refine W.region ?_
        refine ops_run 2 (by kernel_rfl) ?_
        refine ops_R (runs_loadAgg (ad := ⟨b19, 0, none⟩) (cs := [(.bool r12.1), (.int .u64 r12.2.1), (.int .u64 p26)]) (by kernel_rfl) (cells_sub (hs28.heapAt 1 rfl) rfl)) ?_
        obtain ⟨r31, h32, hm⟩ := bind_some hm
        refine ops_call1 hs28 (by kernel_rfl) (sput_walk (vb := vb) (i_ := i_) (ho_ := r12.1) (hg_ := r12.2.1) (hk_ := p26) (img := img) (l := l) (hG2 := hG2) (hL := (hs28.oldCellsB hG2 hL)) (hm := h32) B _) ?_
        rintro _ _ w33 ⟨rfl, rfl⟩ hs34
        have hs35 := St.ap1 hs34
        refine ops_run 1 (by kernel_rfl) ?_
        refine ops_done (by kernel_rfl) ?_
        refine hK30 _ _ ?_
        clear hK30
        refine W.seq fun K36 hK36 => ?_
        refine W.region ?_
        refine ops_run 2 (by kernel_rfl) ?_
        refine ops_done (by kernel_rfl) ?_
        refine hK36 _ _ ?_
        clear hK36
        refine W.cond (!decide (r31.1 = 0)) (by kernel_rfl) (fun h37 => ?_) (fun h37 => ?_)
        rotate_left
        ·
          have h37p : r31.1 = 0 := of_decide_eq_true (bnot_false h37)
          replace hm := ite_yes hm h37p
          refine W.skip ?_
          refine hK29 _ _ ?_
          clear hK29
          refine W.seq fun K38 hK38 => ?_
          refine W.region ?_
          refine ops_run 1 (by kernel_rfl) ?_
          refine ops_R (runs_load (ad := ⟨b19, 2, none⟩) (v := (.int .u64 p26)) (by kernel_rfl) (hs35.cellAt 1 rfl rfl)) ?_
          refine ops_run 2 (by kernel_rfl) ?_
          refine ops_done (by kernel_rfl) ?_
          refine hK38 _ _ ?_
          clear hK38
          refine W.ret ?_
          obtain rfl := some_inj hm
          have hs39 := St.tk1 hs35
          refine ret_of (.tuple #[(.int .u64 p26), (.int .i64 0)]) (by kernel_rfl) ⟨_, ⟨rfl, rfl⟩, hs39⟩
        ·
          have h37p : ¬ (r31.1 = 0) := of_decide_eq_false (bnot_true h37)
          replace hm := ite_no hm h37p
          refine W.seq fun K40 hK40 => ?_
          refine W.region ?_
          refine ops_run 3 (by kernel_rfl) ?_
          refine ops_done (by kernel_rfl) ?_
          refine hK40 _ _ ?_
          clear hK40
          refine W.ret (ret_seq ?_)
          obtain rfl := some_inj hm
          have hs41 := St.tk1 hs35
          refine ret_of (.tuple #[(.int .u64 0), (.int .i64 r31.1)]) (by kernel_rfl) ⟨_, ⟨rfl, rfl⟩, hs41⟩
      ·
        refine W.block ?_
        have hs47 := St.f1 hs22
        refine W.loop_iter (G := Int) (σ := Int) (fun | p42 => p42) (fun | p42, s_, w_ => (∃ us, s_ = slots 67 [(0, (.pointer (some ⟨vb, 0, none⟩))), (1, (.int .i64 i_)), (3, (.int .u64 q_)), (11, (.pointer (some ⟨b19, 0, none⟩)))] us) ∧ St B w l0 w_ [viewA (ptr vb) img l, blk b19 (.cells [(.bool r12.1), (.int .u64 r12.2.1), (.int .u64 p42)].toArray 48 (0, 0))]) r12.2.2.1 ⟨slots_intro _ (by kernel_rfl), hs47⟩ hm ?_
        rintro k43 ih44 p42 _ w45 ⟨⟨us, rfl⟩, hs46⟩ hm
        replace hm : cack_B0 img l i_ q_ r12 k43 p42 = some r := hm
        unfold cack_B0 at hm
        refine W.seq fun K48 hK48 => ?_
        refine W.seq fun K49 hK49 => ?_
        refine W.region ?_
        refine ops_run 1 (by kernel_rfl) ?_
        refine ops_R (runs_load (ad := ⟨b19, 2, none⟩) (v := (.int .u64 p42)) (by kernel_rfl) (hs46.cellAt 1 rfl rfl)) ?_
        refine ops_run 2 (by kernel_rfl) ?_
        refine ops_done (by kernel_rfl) ?_
        refine hK49 _ _ ?_
        clear hK49
        refine W.cond (decide (p42 < q_)) (by kernel_rfl) (fun h50 => ?_) (fun h50 => ?_)
        ·
          have h50p : p42 < q_ := of_decide_eq_true h50
          replace hm := ite_yes hm h50p
          refine W.skip ?_
          refine hK48 _ _ ?_
          clear hK48
          refine W.block ?_
          refine W.seq fun K51 hK51 => ?_
          refine W.region ?_
          refine ops_run 1 (by kernel_rfl) ?_
          refine ops_R (runs_load (ad := ⟨b19, 2, none⟩) (v := (.int .u64 p42)) (by kernel_rfl) (hs46.cellAt 1 rfl rfl)) ?_
          refine ops_val (v := .int .u64 (IntKind.u64.wrap (p42 + 1))) (v' := .int .u64 ((p42 + 1) % 18446744073709551616)) (by kernel_rfl) (congrArg (Value.int .u64) (wrap_u64_mod _)) ?_
          refine ops_run 1 (by kernel_rfl) ?_
          obtain ⟨r52, h53, hm⟩ := bind_some hm
          replace h53 := some_inj h53
          refine ops_set 12 (v := .int .u64 r52) (Eq.trans (by kernel_rfl) (congrArg (Value.int .u64) h53)) ?_
          refine ops_done (by kernel_rfl) ?_
          refine hK51 _ _ ?_
          clear hK51
          refine W.seq fun K54 hK54 => ?_
          refine W.region ?_
          refine ops_run 4 (by kernel_rfl) ?_
          obtain ⟨h55, hm⟩ := need_some hm
          refine ops_val (v := .int .i64 (IntKind.i64.wrap (r52.tmod 4))) (v' := .int .i64 (r52.tmod 4)) (by kernel_rfl) (congrArg (Value.int .i64) (wrap_i64 h55.1 h55.2)) ?_
          obtain ⟨r56, h57, hm⟩ := bind_some hm
          refine ops_call0 hs46 (by kernel_rfl) (sload_walk (i_ := i_) (k_ := r52.tmod 4) (img := img) (l := l) (hL := (hs46.oldCellsB hG2 hL)) (hv := (hs46.entAt 0 rfl viewA_at)) (hm := h57) B _) ?_
          rintro _ _ w58 ⟨rfl, rfl⟩ hs59
          have hs60 := St.ap0 hs59
          refine ops_run 4 (by kernel_rfl) ?_
          refine ops_new (fun b => .pointer (some ⟨b, 0, none⟩)) (.cells [(.int .i64 0), (.int .u64 0), (.int .u64 0), (.string ByteArray.empty)].toArray 46 (0, 0)) hs60 (by kernel_rfl) (fun b63 w61 hs62 => ?_)
          refine ops_run 1 (by kernel_rfl) ?_
          refine ops_store (off := 0) (cs := [(.int .i64 0), (.int .u64 0), (.int .u64 0), (.string ByteArray.empty)]) (vs := [(.int .i64 r56.2.1), (.int .u64 r56.2.2.1), (.int .u64 r56.2.2.2.1), (.string r56.2.2.2.2.1)]) hs62 (by kernel_rfl) (by simp) rfl (fun w64 hs65 => ?_)
          have hs66 : St B w l0 w64 [blk b63 (.cells [(.int .i64 r56.2.1), (.int .u64 r56.2.2.1), (.int .u64 r56.2.2.2.1), (.string r56.2.2.2.2.1)].toArray 46 (0, 0)), viewA (ptr vb) img l, blk b19 (.cells [(.bool r12.1), (.int .u64 r12.2.1), (.int .u64 p42)].toArray 48 (0, 0))] := hs65
          refine ops_run 1 (by kernel_rfl) ?_
          refine ops_done (by kernel_rfl) ?_
          refine hK54 _ _ ?_
          clear hK54
          refine W.seq fun K67 hK67 => ?_
          refine W.seq fun K68 hK68 => ?_
          refine W.region ?_
          refine ops_run 2 (by kernel_rfl) ?_
          refine ops_done (by kernel_rfl) ?_
          refine hK68 _ _ ?_
          clear hK68
          refine W.cond (!decide (r56.2.2.2.2.2 = 0)) (by kernel_rfl) (fun h69 => ?_) (fun h69 => ?_)
          rotate_left
          ·
            have h69p : r56.2.2.2.2.2 = 0 := of_decide_eq_true (bnot_false h69)
            replace hm := ite_yes hm h69p
            refine W.skip ?_
            refine hK67 _ _ ?_
            clear hK67
            refine W.seq fun K70 hK70 => ?_
            refine W.seq fun K71 hK71 => ?_
            refine W.region ?_
            refine ops_run 3 (by kernel_rfl) ?_
            refine ops_done (by kernel_rfl) ?_
            refine hK71 _ _ ?_
            clear hK71
            refine W.cond (!decide (r56.1 = r52)) (by kernel_rfl) (fun h72 => ?_) (fun h72 => ?_)
            rotate_left
            ·
              have h72p : r56.1 = r52 := of_decide_eq_true (bnot_false h72)
              replace hm := ite_yes hm h72p
              refine W.skip ?_
              refine hK70 _ _ ?_
              clear hK70
              refine W.region ?_
              refine ops_run 2 (by kernel_rfl) ?_
              have hs75 := St.f2 hs66
              refine ops_store (off := 2) (cs := [(.bool r12.1), (.int .u64 r12.2.1), (.int .u64 p42)]) (vs := [(.int .u64 r52)]) hs75 (by kernel_rfl) (by simp) rfl (fun w73 hs74 => ?_)
              have hs76 : St B w l0 w73 [blk b19 (.cells [(.bool r12.1), (.int .u64 r12.2.1), (.int .u64 r52)].toArray 48 (0, 0)), blk b63 (.cells [(.int .i64 r56.2.1), (.int .u64 r56.2.2.1), (.int .u64 r56.2.2.2.1), (.string r56.2.2.2.2.1)].toArray 46 (0, 0)), viewA (ptr vb) img l] := hs74
              refine ops_done (by kernel_rfl) ?_
              refine normal_block ?_
              have hs77 := St.f2 hs76
              have hs78 := St.tk2 hs77
              refine loopAt_next ?_
              exact ih44 r52 _ _ ⟨slots_intro _ (by kernel_rfl), hs78⟩ hm
            ·
              have h72p : ¬ (r56.1 = r52) := of_decide_eq_false (bnot_true h72)
              replace hm := ite_no hm h72p
              refine W.exit (exit_seq (exit_block (by decide) (exit_seq (exit_here ?_))))
              have hs79 := St.f2 hs66
              have hs80 := St.f2 hs79
              have hs81 := St.tk2 hs80
              exact ⟨p42, slots_intro _ (by kernel_rfl), hs81, hm⟩
          ·
            have h69p : ¬ (r56.2.2.2.2.2 = 0) := of_decide_eq_false (bnot_true h69)
            replace hm := ite_no hm h69p
            refine W.seq fun K82 hK82 => ?_
            refine W.region ?_
            refine ops_run 3 (by kernel_rfl) ?_
            refine ops_done (by kernel_rfl) ?_
            refine hK82 _ _ ?_
            clear hK82
            refine W.ret (ret_seq (ret_block (ret_seq (ret_block (ret_seq ?_)))))
            obtain rfl := some_inj hm
            have hs83 := St.f1 hs66
            have hs84 := St.tk1 hs83
            refine ret_of (.tuple #[(.int .u64 0), (.int .i64 r56.2.2.2.2.2)]) (by kernel_rfl) ⟨_, ⟨rfl, rfl⟩, hs84⟩
        ·
          have h50p : ¬ (p42 < q_) := of_decide_eq_false h50
          replace hm := ite_no hm h50p
          refine W.exit (exit_seq (exit_seq (exit_here ?_)))
          exact ⟨p42, slots_intro _ (by kernel_rfl), hs46, hm⟩
    ·
      have h25p : ¬ (r12.2.2.2 = 0) := of_decide_eq_false (bnot_true h25)
      replace hm := ite_no hm h25p
      refine W.seq fun K85 hK85 => ?_
      refine W.region ?_
      refine ops_run 3 (by kernel_rfl) ?_
      refine ops_done (by kernel_rfl) ?_
      refine hK85 _ _ ?_
      clear hK85
      refine W.ret (ret_seq ?_)
      obtain rfl := some_inj hm
      have hs86 := St.f1 hs22
      have hs87 := St.tk1 hs86
      refine ret_of (.tuple #[(.int .u64 0), (.int .i64 r12.2.2.2)]) (by kernel_rfl) ⟨_, ⟨rfl, rfl⟩, hs87⟩
  ·
    have h10p : ¬ (r4 = 0) := of_decide_eq_false (bnot_true h10)
    replace hm := ite_no hm h10p
    refine W.seq fun K88 hK88 => ?_
    refine W.region ?_
    refine ops_run 3 (by kernel_rfl) ?_
    refine ops_done (by kernel_rfl) ?_
    refine hK88 _ _ ?_
    clear hK88
    refine W.ret (ret_seq ?_)
    obtain rfl := some_inj hm
    refine ret_of (.tuple #[(.int .u64 0), (.int .i64 r4)]) (by kernel_rfl) ⟨_, ⟨rfl, rfl⟩, hs8⟩

def copen_J1 (img : List Int) (l : List (Int × Int)) (i_ : Int) (g_ : Int) : Option (Int × Int × List (Int × Int)) :=
  (sput_M img l i_ true g_ 0).bind fun r26 =>
if r26.1 = 0 then ((swipe_M img r26.2 i_).bind fun r34 =>
some (0, r34.1, r34.2)) else (some (0, r26.1, r26.2))

def copen_J2 (img : List Int) (l : List (Int × Int)) (i_ : Int) (g_ : Int) (r12 : Bool × Int × Int × Int) (p45 : Bool) : Option (Int × Int × List (Int × Int)) :=
  if p45 = true then (some (1, 0, l)) else (if g_ ≤ r12.2.1 then (some (2, 0, l)) else (if r12.1 = true then (if r12.1 = true then (some (3, 0, l)) else (copen_J1 img l i_ g_)) else (if ((g_ - r12.2.1) % 18446744073709551616) > 1 then (some (3, 0, l)) else (copen_J1 img l i_ g_))))

def copen_M (img : List Int) (l : List (Int × Int)) (i_ : Int) (g_ : Int) : Option (Int × Int × List (Int × Int)) :=
  (cmay_M g_ 1).bind fun r4 =>
if r4 = 0 then ((sget_M img l i_).bind fun r12 =>
if r12.2.2.2 = 0 then (if r12.1 = true then (copen_J2 img l i_ g_ r12 (decide (g_ = r12.2.1))) else (copen_J2 img l i_ g_ r12 false)) else (some (0, r12.2.2.2, l))) else (some (0, r4, l))

set_option maxRecDepth 20000 in
set_option maxHeartbeats 2000000 in
set_option linter.unusedVariables false in
theorem copen_walk {img : List Int} {l : List (Int × Int)} {i_ : Int} {g_ : Int} {vb : Nat} {r : Int × Int × List (Int × Int)} (B : Nat) (w : World) (hG2 : 1 < B) (hL : CellsAt (some ⟨1, 0, none⟩) [(.int .i64 1), (.int .i64 2), (.int .i64 2)] w) (hm : copen_M img l i_ g_ = some r) : Spec Tryd.prog 70 #[(.pointer (some ⟨vb, 0, none⟩)), (.int .i64 i_), (.int .u64 g_)] B w [viewA (ptr vb) img l] (fun v H' => v = (.tuple #[(.int .u8 r.1), (.int .i64 r.2.1)]) ∧ H' = [viewA (ptr vb) img r.2.2]) := by
  refine spec_W Tryd.func70 rfl fun l0 hs => ?_
  unfold copen_M at hm
  refine W.seq fun K1 hK1 => ?_
  refine W.region ?_
  refine ops_run 2 (by kernel_rfl) ?_
  refine ops_done (by kernel_rfl) ?_
  refine hK1 _ _ ?_
  clear hK1
  refine W.seq fun K2 hK2 => ?_
  refine W.seq fun K3 hK3 => ?_
  refine W.region ?_
  refine ops_run 2 (by kernel_rfl) ?_
  obtain ⟨r4, h5, hm⟩ := bind_some hm
  refine ops_call0 hs (by kernel_rfl) (cmay_walk (q_ := g_) (t_ := 1) (img := img) (l := l) (hv := (hs.entAt 0 rfl viewA_at)) (hm := h5) B _) ?_
  rintro _ _ w6 ⟨rfl, rfl⟩ hs7
  have hs8 := St.ap0 hs7
  refine ops_run 1 (by kernel_rfl) ?_
  refine ops_done (by kernel_rfl) ?_
  refine hK3 _ _ ?_
  clear hK3
  refine W.seq fun K9 hK9 => ?_
  refine W.region ?_
  refine ops_run 2 (by kernel_rfl) ?_
  refine ops_done (by kernel_rfl) ?_
  refine hK9 _ _ ?_
  clear hK9
  refine W.cond (!decide (r4 = 0)) (by kernel_rfl) (fun h10 => ?_) (fun h10 => ?_)
  rotate_left
  ·
    have h10p : r4 = 0 := of_decide_eq_true (bnot_false h10)
    replace hm := ite_yes hm h10p
    refine W.skip ?_
    refine hK2 _ _ ?_
    clear hK2
    refine W.seq fun K11 hK11 => ?_
    refine W.region ?_
    refine ops_run 2 (by kernel_rfl) ?_
    obtain ⟨r12, h13, hm⟩ := bind_some hm
    refine ops_call0 hs8 (by kernel_rfl) (sget_walk (i_ := i_) (img := img) (l := l) (hL := (hs8.oldCellsB hG2 hL)) (hv := (hs8.entAt 0 rfl viewA_at)) (hm := h13) B _) ?_
    rintro _ _ w14 ⟨rfl, rfl⟩ hs15
    have hs16 := St.ap0 hs15
    refine ops_run 3 (by kernel_rfl) ?_
    refine ops_new (fun b => .pointer (some ⟨b, 0, none⟩)) (.cells [(.bool false), (.int .u64 0), (.int .u64 0)].toArray 48 (0, 0)) hs16 (by kernel_rfl) (fun b19 w17 hs18 => ?_)
    refine ops_store (off := 0) (cs := [(.bool false), (.int .u64 0), (.int .u64 0)]) (vs := [(.bool r12.1), (.int .u64 r12.2.1), (.int .u64 r12.2.2.1)]) hs18 (by kernel_rfl) (by simp) rfl (fun w20 hs21 => ?_)
    have hs22 : St B w l0 w20 [blk b19 (.cells [(.bool r12.1), (.int .u64 r12.2.1), (.int .u64 r12.2.2.1)].toArray 48 (0, 0)), viewA (ptr vb) img l] := hs21
    refine ops_run 1 (by kernel_rfl) ?_
    refine ops_done (by kernel_rfl) ?_
    refine hK11 _ _ ?_
    clear hK11
    refine W.seq_join (fun s_ w_ => (∃ us, s_ = slots 60 [(0, (.pointer (some ⟨vb, 0, none⟩))), (1, (.int .i64 i_)), (2, (.int .u64 g_))] us) ∧ St B w l0 w_ [viewA (ptr vb) img l, blk b19 (.cells [(.bool r12.1), (.int .u64 r12.2.1), (.int .u64 r12.2.2.1)].toArray 48 (0, 0))] ∧ copen_J1 img l i_ g_ = some r) ?_ ?_
    ·
      rintro _ w23 ⟨⟨us, rfl⟩, hs24, hm⟩
      unfold copen_J1 at hm
      refine W.seq fun K25 hK25 => ?_
      refine W.region ?_
      refine ops_run 4 (by kernel_rfl) ?_
      obtain ⟨r26, h27, hm⟩ := bind_some hm
      refine ops_call1 hs24 (by kernel_rfl) (sput_walk (vb := vb) (i_ := i_) (ho_ := true) (hg_ := g_) (hk_ := 0) (img := img) (l := l) (hG2 := hG2) (hL := (hs24.oldCellsB hG2 hL)) (hm := h27) B _) ?_
      rintro _ _ w28 ⟨rfl, rfl⟩ hs29
      have hs30 := St.ap1 hs29
      refine ops_run 1 (by kernel_rfl) ?_
      refine ops_done (by kernel_rfl) ?_
      refine hK25 _ _ ?_
      clear hK25
      refine W.seq fun K31 hK31 => ?_
      refine W.seq fun K32 hK32 => ?_
      refine W.region ?_
      refine ops_run 2 (by kernel_rfl) ?_
      refine ops_done (by kernel_rfl) ?_
      refine hK32 _ _ ?_
      clear hK32
      refine W.cond (decide (r26.1 = 0)) (by kernel_rfl) (fun h33 => ?_) (fun h33 => ?_)
      ·
        have h33p : r26.1 = 0 := of_decide_eq_true h33
        replace hm := ite_yes hm h33p
        refine W.region ?_
        refine ops_run 2 (by kernel_rfl) ?_
        obtain ⟨r34, h35, hm⟩ := bind_some hm
        refine ops_call1 hs30 (by kernel_rfl) (swipe_walk (vb := vb) (i_ := i_) (img := img) (l := r26.2) (hG2 := hG2) (hL := (hs30.oldCellsB hG2 hL)) (hm := h35) B _) ?_
        rintro _ _ w36 ⟨rfl, rfl⟩ hs37
        have hs38 := St.ap1 hs37
        refine ops_run 1 (by kernel_rfl) ?_
        refine ops_done (by kernel_rfl) ?_
        refine hK31 _ _ ?_
        clear hK31
        refine W.seq fun K39 hK39 => ?_
        refine W.region ?_
        refine ops_run 3 (by kernel_rfl) ?_
        refine ops_done (by kernel_rfl) ?_
        refine hK39 _ _ ?_
        clear hK39
        refine W.ret ?_
        obtain rfl := some_inj hm
        have hs40 := St.tk1 hs38
        refine ret_of (.tuple #[(.int .u8 0), (.int .i64 r34.1)]) (by kernel_rfl) ⟨_, ⟨rfl, rfl⟩, hs40⟩
      ·
        have h33p : ¬ (r26.1 = 0) := of_decide_eq_false h33
        replace hm := ite_no hm h33p
        refine W.skip ?_
        refine hK31 _ _ ?_
        clear hK31
        refine W.seq fun K41 hK41 => ?_
        refine W.region ?_
        refine ops_run 3 (by kernel_rfl) ?_
        refine ops_done (by kernel_rfl) ?_
        refine hK41 _ _ ?_
        clear hK41
        refine W.ret ?_
        obtain rfl := some_inj hm
        have hs42 := St.tk1 hs30
        refine ret_of (.tuple #[(.int .u8 0), (.int .i64 r26.1)]) (by kernel_rfl) ⟨_, ⟨rfl, rfl⟩, hs42⟩
    ·
      refine W.block ?_
      refine W.seq fun K43 hK43 => ?_
      refine W.region ?_
      refine ops_run 3 (by kernel_rfl) ?_
      refine ops_done (by kernel_rfl) ?_
      refine hK43 _ _ ?_
      clear hK43
      refine W.cond (!decide (r12.2.2.2 = 0)) (by kernel_rfl) (fun h44 => ?_) (fun h44 => ?_)
      rotate_left
      ·
        have h44p : r12.2.2.2 = 0 := of_decide_eq_true (bnot_false h44)
        replace hm := ite_yes hm h44p
        refine W.seq_join (fun s_ w_ => ∃ (p45 : Bool), (∃ us, s_ = slots 60 [(0, (.pointer (some ⟨vb, 0, none⟩))), (1, (.int .i64 i_)), (2, (.int .u64 g_)), (9, (.pointer (some ⟨b19, 0, none⟩))), (27, (.bool p45))] us) ∧ St B w l0 w_ [viewA (ptr vb) img l, blk b19 (.cells [(.bool r12.1), (.int .u64 r12.2.1), (.int .u64 r12.2.2.1)].toArray 48 (0, 0))] ∧ copen_J2 img l i_ g_ r12 p45 = some r) ?_ ?_
        ·
          rintro _ w46 ⟨p45, ⟨us, rfl⟩, hs47, hm⟩
          unfold copen_J2 at hm
          refine W.cond p45 (by kernel_rfl) (fun h48 => ?_) (fun h48 => ?_)
          ·
            have h48p : p45 = true := h48
            replace hm := ite_yes hm h48p
            refine W.seq fun K49 hK49 => ?_
            refine W.region ?_
            refine ops_run 2 (by kernel_rfl) ?_
            refine ops_done (by kernel_rfl) ?_
            refine hK49 _ _ ?_
            clear hK49
            refine W.ret (ret_block (ret_seq ?_))
            obtain rfl := some_inj hm
            have hs50 := St.tk1 hs47
            refine ret_of (.tuple #[(.int .u8 1), (.int .i64 0)]) (by kernel_rfl) ⟨_, ⟨rfl, rfl⟩, hs50⟩
          ·
            have h48p : ¬ (p45 = true) := ne_true_of_eq_false h48
            replace hm := ite_no hm h48p
            refine W.seq fun K51 hK51 => ?_
            refine W.region ?_
            refine ops_run 2 (by kernel_rfl) ?_
            refine ops_R (runs_load (ad := ⟨b19, 1, none⟩) (v := (.int .u64 r12.2.1)) (by kernel_rfl) (hs47.cellAt 1 rfl rfl)) ?_
            refine ops_run 2 (by kernel_rfl) ?_
            refine ops_done (by kernel_rfl) ?_
            refine hK51 _ _ ?_
            clear hK51
            refine W.cond (decide (g_ ≤ r12.2.1)) (by kernel_rfl) (fun h52 => ?_) (fun h52 => ?_)
            ·
              have h52p : g_ ≤ r12.2.1 := of_decide_eq_true h52
              replace hm := ite_yes hm h52p
              refine W.seq fun K53 hK53 => ?_
              refine W.region ?_
              refine ops_run 2 (by kernel_rfl) ?_
              refine ops_done (by kernel_rfl) ?_
              refine hK53 _ _ ?_
              clear hK53
              refine W.ret (ret_block (ret_seq ?_))
              obtain rfl := some_inj hm
              have hs54 := St.tk1 hs47
              refine ret_of (.tuple #[(.int .u8 2), (.int .i64 0)]) (by kernel_rfl) ⟨_, ⟨rfl, rfl⟩, hs54⟩
            ·
              have h52p : ¬ (g_ ≤ r12.2.1) := of_decide_eq_false h52
              replace hm := ite_no hm h52p
              refine W.seq fun K55 hK55 => ?_
              refine W.seq fun K56 hK56 => ?_
              refine W.region ?_
              refine ops_run 1 (by kernel_rfl) ?_
              refine ops_R (runs_load (ad := ⟨b19, 0, none⟩) (v := (.bool r12.1)) (by kernel_rfl) (hs47.cellAt 1 rfl rfl)) ?_
              refine ops_run 1 (by kernel_rfl) ?_
              refine ops_done (by kernel_rfl) ?_
              refine hK56 _ _ ?_
              clear hK56
              refine W.cond r12.1 (by kernel_rfl) (fun h57 => ?_) (fun h57 => ?_)
              ·
                have h57p : r12.1 = true := h57
                replace hm := ite_yes hm h57p
                refine W.skip ?_
                refine hK55 _ _ ?_
                clear hK55
                refine W.cond r12.1 (by kernel_rfl) (fun h58 => ?_) (fun h58 => ?_)
                ·
                  have h58p : r12.1 = true := h58
                  replace hm := ite_yes hm h58p
                  refine W.seq fun K59 hK59 => ?_
                  refine W.region ?_
                  refine ops_run 2 (by kernel_rfl) ?_
                  refine ops_done (by kernel_rfl) ?_
                  refine hK59 _ _ ?_
                  clear hK59
                  refine W.ret (ret_block (ret_seq ?_))
                  obtain rfl := some_inj hm
                  have hs60 := St.tk1 hs47
                  refine ret_of (.tuple #[(.int .u8 3), (.int .i64 0)]) (by kernel_rfl) ⟨_, ⟨rfl, rfl⟩, hs60⟩
                ·
                  have h58p : ¬ (r12.1 = true) := ne_true_of_eq_false h58
                  replace hm := ite_no hm h58p
                  refine W.skip ?_
                  refine normal_block ?_
                  exact ⟨slots_intro _ (by kernel_rfl), hs47, hm⟩
              ·
                have h57p : ¬ (r12.1 = true) := ne_true_of_eq_false h57
                replace hm := ite_no hm h57p
                refine W.region ?_
                refine ops_run 2 (by kernel_rfl) ?_
                refine ops_R (runs_load (ad := ⟨b19, 1, none⟩) (v := (.int .u64 r12.2.1)) (by kernel_rfl) (hs47.cellAt 1 rfl rfl)) ?_
                refine ops_val (v := .int .u64 (IntKind.u64.wrap (g_ - r12.2.1))) (v' := .int .u64 ((g_ - r12.2.1) % 18446744073709551616)) (by kernel_rfl) (congrArg (Value.int .u64) (wrap_u64_mod _)) ?_
                refine ops_run 2 (by kernel_rfl) ?_
                refine ops_done (by kernel_rfl) ?_
                refine hK55 _ _ ?_
                clear hK55
                refine W.cond (decide (((g_ - r12.2.1) % 18446744073709551616) > 1)) (by kernel_rfl) (fun h61 => ?_) (fun h61 => ?_)
                ·
                  have h61p : ((g_ - r12.2.1) % 18446744073709551616) > 1 := of_decide_eq_true h61
                  replace hm := ite_yes hm h61p
                  refine W.seq fun K62 hK62 => ?_
                  refine W.region ?_
                  refine ops_run 2 (by kernel_rfl) ?_
                  refine ops_done (by kernel_rfl) ?_
                  refine hK62 _ _ ?_
                  clear hK62
                  refine W.ret (ret_block (ret_seq ?_))
                  obtain rfl := some_inj hm
                  have hs63 := St.tk1 hs47
                  refine ret_of (.tuple #[(.int .u8 3), (.int .i64 0)]) (by kernel_rfl) ⟨_, ⟨rfl, rfl⟩, hs63⟩
                ·
                  have h61p : ¬ (((g_ - r12.2.1) % 18446744073709551616) > 1) := of_decide_eq_false h61
                  replace hm := ite_no hm h61p
                  refine W.skip ?_
                  refine normal_block ?_
                  exact ⟨slots_intro _ (by kernel_rfl), hs47, hm⟩
        ·
          refine W.region ?_
          refine ops_run 1 (by kernel_rfl) ?_
          refine ops_R (runs_load (ad := ⟨b19, 0, none⟩) (v := (.bool r12.1)) (by kernel_rfl) (hs22.cellAt 0 rfl rfl)) ?_
          refine ops_run 1 (by kernel_rfl) ?_
          rcases Bool.eq_false_or_eq_true r12.1 with h64 | h64
          ·
            have h64p : r12.1 = true := h64
            replace hm := ite_yes hm h64p
            refine ops_set 30 (v := .bool true) (eq_bool_of (by kernel_rfl) h64) ?_
            refine ops_set 29 (v := .bool true) (eq_bool_of (by kernel_rfl) h64) ?_
            refine ops_run 2 (by kernel_rfl) ?_
            refine ops_R (runs_load (ad := ⟨b19, 1, none⟩) (v := (.int .u64 r12.2.1)) (by kernel_rfl) (hs22.cellAt 0 rfl rfl)) ?_
            refine ops_run 3 (by kernel_rfl) ?_
            refine ops_done (by kernel_rfl) ?_
            have hs65 := St.f1 hs22
            exact ⟨(decide (g_ = r12.2.1)), slots_intro _ (by kernel_rfl), hs65, hm⟩
          ·
            have h64p : ¬ (r12.1 = true) := ne_true_of_eq_false h64
            replace hm := ite_no hm h64p
            refine ops_set 30 (v := .bool false) (eq_bool_of (by kernel_rfl) h64) ?_
            refine ops_set 29 (v := .bool false) (eq_bool_of (by kernel_rfl) h64) ?_
            refine ops_run 6 (by kernel_rfl) ?_
            refine ops_done (by kernel_rfl) ?_
            have hs66 := St.f1 hs22
            exact ⟨false, slots_intro _ (by kernel_rfl), hs66, hm⟩
      ·
        have h44p : ¬ (r12.2.2.2 = 0) := of_decide_eq_false (bnot_true h44)
        replace hm := ite_no hm h44p
        refine W.seq fun K67 hK67 => ?_
        refine W.region ?_
        refine ops_run 3 (by kernel_rfl) ?_
        refine ops_done (by kernel_rfl) ?_
        refine hK67 _ _ ?_
        clear hK67
        refine W.ret (ret_block (ret_seq ?_))
        obtain rfl := some_inj hm
        have hs68 := St.f1 hs22
        have hs69 := St.tk1 hs68
        refine ret_of (.tuple #[(.int .u8 0), (.int .i64 r12.2.2.2)]) (by kernel_rfl) ⟨_, ⟨rfl, rfl⟩, hs69⟩
  ·
    have h10p : ¬ (r4 = 0) := of_decide_eq_false (bnot_true h10)
    replace hm := ite_no hm h10p
    refine W.seq fun K70 hK70 => ?_
    refine W.region ?_
    refine ops_run 3 (by kernel_rfl) ?_
    refine ops_done (by kernel_rfl) ?_
    refine hK70 _ _ ?_
    clear hK70
    refine W.ret (ret_seq ?_)
    obtain rfl := some_inj hm
    refine ret_of (.tuple #[(.int .u8 0), (.int .i64 r4)]) (by kernel_rfl) ⟨_, ⟨rfl, rfl⟩, hs8⟩

def cclose_M (img : List Int) (l : List (Int × Int)) (i_ : Int) (g_ : Int) : Option (Int × Int × List (Int × Int)) :=
  (cmay_M g_ 1).bind fun r4 =>
if r4 = 0 then ((sget_M img l i_).bind fun r12 =>
if r12.2.2.2 = 0 then (if g_ < r12.2.1 then (some (2, 0, l)) else (if g_ > r12.2.1 then (some (3, 0, l)) else (if r12.1 = true then ((sput_M img l i_ false r12.2.1 r12.2.2.1).bind fun r43 =>
some (0, r43.1, r43.2)) else (some (1, 0, l))))) else (some (0, r12.2.2.2, l))) else (some (0, r4, l))

set_option maxRecDepth 20000 in
set_option maxHeartbeats 2000000 in
set_option linter.unusedVariables false in
theorem cclose_walk {img : List Int} {l : List (Int × Int)} {i_ : Int} {g_ : Int} {vb : Nat} {r : Int × Int × List (Int × Int)} (B : Nat) (w : World) (hG2 : 1 < B) (hL : CellsAt (some ⟨1, 0, none⟩) [(.int .i64 1), (.int .i64 2), (.int .i64 2)] w) (hm : cclose_M img l i_ g_ = some r) : Spec Tryd.prog 72 #[(.pointer (some ⟨vb, 0, none⟩)), (.int .i64 i_), (.int .u64 g_)] B w [viewA (ptr vb) img l] (fun v H' => v = (.tuple #[(.int .u8 r.1), (.int .i64 r.2.1)]) ∧ H' = [viewA (ptr vb) img r.2.2]) := by
  refine spec_W Tryd.func72 rfl fun l0 hs => ?_
  unfold cclose_M at hm
  refine W.seq fun K1 hK1 => ?_
  refine W.region ?_
  refine ops_run 2 (by kernel_rfl) ?_
  refine ops_done (by kernel_rfl) ?_
  refine hK1 _ _ ?_
  clear hK1
  refine W.seq fun K2 hK2 => ?_
  refine W.seq fun K3 hK3 => ?_
  refine W.region ?_
  refine ops_run 2 (by kernel_rfl) ?_
  obtain ⟨r4, h5, hm⟩ := bind_some hm
  refine ops_call0 hs (by kernel_rfl) (cmay_walk (q_ := g_) (t_ := 1) (img := img) (l := l) (hv := (hs.entAt 0 rfl viewA_at)) (hm := h5) B _) ?_
  rintro _ _ w6 ⟨rfl, rfl⟩ hs7
  have hs8 := St.ap0 hs7
  refine ops_run 1 (by kernel_rfl) ?_
  refine ops_done (by kernel_rfl) ?_
  refine hK3 _ _ ?_
  clear hK3
  refine W.seq fun K9 hK9 => ?_
  refine W.region ?_
  refine ops_run 2 (by kernel_rfl) ?_
  refine ops_done (by kernel_rfl) ?_
  refine hK9 _ _ ?_
  clear hK9
  refine W.cond (!decide (r4 = 0)) (by kernel_rfl) (fun h10 => ?_) (fun h10 => ?_)
  rotate_left
  ·
    have h10p : r4 = 0 := of_decide_eq_true (bnot_false h10)
    replace hm := ite_yes hm h10p
    refine W.skip ?_
    refine hK2 _ _ ?_
    clear hK2
    refine W.seq fun K11 hK11 => ?_
    refine W.region ?_
    refine ops_run 2 (by kernel_rfl) ?_
    obtain ⟨r12, h13, hm⟩ := bind_some hm
    refine ops_call0 hs8 (by kernel_rfl) (sget_walk (i_ := i_) (img := img) (l := l) (hL := (hs8.oldCellsB hG2 hL)) (hv := (hs8.entAt 0 rfl viewA_at)) (hm := h13) B _) ?_
    rintro _ _ w14 ⟨rfl, rfl⟩ hs15
    have hs16 := St.ap0 hs15
    refine ops_run 3 (by kernel_rfl) ?_
    refine ops_new (fun b => .pointer (some ⟨b, 0, none⟩)) (.cells [(.bool false), (.int .u64 0), (.int .u64 0)].toArray 48 (0, 0)) hs16 (by kernel_rfl) (fun b19 w17 hs18 => ?_)
    refine ops_store (off := 0) (cs := [(.bool false), (.int .u64 0), (.int .u64 0)]) (vs := [(.bool r12.1), (.int .u64 r12.2.1), (.int .u64 r12.2.2.1)]) hs18 (by kernel_rfl) (by simp) rfl (fun w20 hs21 => ?_)
    have hs22 : St B w l0 w20 [blk b19 (.cells [(.bool r12.1), (.int .u64 r12.2.1), (.int .u64 r12.2.2.1)].toArray 48 (0, 0)), viewA (ptr vb) img l] := hs21
    refine ops_run 1 (by kernel_rfl) ?_
    refine ops_done (by kernel_rfl) ?_
    refine hK11 _ _ ?_
    clear hK11
    refine W.seq fun K23 hK23 => ?_
    refine W.block ?_
    refine W.seq fun K24 hK24 => ?_
    refine W.region ?_
    refine ops_run 3 (by kernel_rfl) ?_
    refine ops_done (by kernel_rfl) ?_
    refine hK24 _ _ ?_
    clear hK24
    refine W.cond (!decide (r12.2.2.2 = 0)) (by kernel_rfl) (fun h25 => ?_) (fun h25 => ?_)
    rotate_left
    ·
      have h25p : r12.2.2.2 = 0 := of_decide_eq_true (bnot_false h25)
      replace hm := ite_yes hm h25p
      refine W.seq fun K26 hK26 => ?_
      refine W.region ?_
      refine ops_run 2 (by kernel_rfl) ?_
      refine ops_R (runs_load (ad := ⟨b19, 1, none⟩) (v := (.int .u64 r12.2.1)) (by kernel_rfl) (hs22.cellAt 0 rfl rfl)) ?_
      refine ops_run 2 (by kernel_rfl) ?_
      refine ops_done (by kernel_rfl) ?_
      refine hK26 _ _ ?_
      clear hK26
      refine W.cond (decide (g_ < r12.2.1)) (by kernel_rfl) (fun h27 => ?_) (fun h27 => ?_)
      ·
        have h27p : g_ < r12.2.1 := of_decide_eq_true h27
        replace hm := ite_yes hm h27p
        refine W.seq fun K28 hK28 => ?_
        refine W.region ?_
        refine ops_run 2 (by kernel_rfl) ?_
        refine ops_done (by kernel_rfl) ?_
        refine hK28 _ _ ?_
        clear hK28
        refine W.ret (ret_block (ret_seq ?_))
        obtain rfl := some_inj hm
        have hs29 := St.f1 hs22
        have hs30 := St.tk1 hs29
        refine ret_of (.tuple #[(.int .u8 2), (.int .i64 0)]) (by kernel_rfl) ⟨_, ⟨rfl, rfl⟩, hs30⟩
      ·
        have h27p : ¬ (g_ < r12.2.1) := of_decide_eq_false h27
        replace hm := ite_no hm h27p
        refine W.seq fun K31 hK31 => ?_
        refine W.region ?_
        refine ops_run 2 (by kernel_rfl) ?_
        refine ops_R (runs_load (ad := ⟨b19, 1, none⟩) (v := (.int .u64 r12.2.1)) (by kernel_rfl) (hs22.cellAt 0 rfl rfl)) ?_
        refine ops_run 2 (by kernel_rfl) ?_
        refine ops_done (by kernel_rfl) ?_
        refine hK31 _ _ ?_
        clear hK31
        refine W.cond (decide (g_ > r12.2.1)) (by kernel_rfl) (fun h32 => ?_) (fun h32 => ?_)
        ·
          have h32p : g_ > r12.2.1 := of_decide_eq_true h32
          replace hm := ite_yes hm h32p
          refine W.seq fun K33 hK33 => ?_
          refine W.region ?_
          refine ops_run 2 (by kernel_rfl) ?_
          refine ops_done (by kernel_rfl) ?_
          refine hK33 _ _ ?_
          clear hK33
          refine W.ret (ret_block (ret_seq ?_))
          obtain rfl := some_inj hm
          have hs34 := St.f1 hs22
          have hs35 := St.tk1 hs34
          refine ret_of (.tuple #[(.int .u8 3), (.int .i64 0)]) (by kernel_rfl) ⟨_, ⟨rfl, rfl⟩, hs35⟩
        ·
          have h32p : ¬ (g_ > r12.2.1) := of_decide_eq_false h32
          replace hm := ite_no hm h32p
          refine W.seq fun K36 hK36 => ?_
          refine W.region ?_
          refine ops_run 1 (by kernel_rfl) ?_
          refine ops_R (runs_load (ad := ⟨b19, 0, none⟩) (v := (.bool r12.1)) (by kernel_rfl) (hs22.cellAt 0 rfl rfl)) ?_
          refine ops_run 2 (by kernel_rfl) ?_
          refine ops_done (by kernel_rfl) ?_
          refine hK36 _ _ ?_
          clear hK36
          refine W.cond (!r12.1) (by kernel_rfl) (fun h37 => ?_) (fun h37 => ?_)
          rotate_left
          ·
            have h37p : r12.1 = true := (bnot_false h37)
            replace hm := ite_yes hm h37p
            refine W.skip ?_
            refine normal_block ?_
            refine hK23 _ _ ?_
            clear hK23
            refine W.seq fun K38 hK38 => ?_
            refine W.region ?_
            refine ops_run 1 (by kernel_rfl) ?_
            refine ops_store (off := 0) (cs := [(.bool r12.1), (.int .u64 r12.2.1), (.int .u64 r12.2.2.1)]) (vs := [(.bool false)]) hs22 (by kernel_rfl) (by simp) rfl (fun w39 hs40 => ?_)
            have hs41 : St B w l0 w39 [blk b19 (.cells [(.bool false), (.int .u64 r12.2.1), (.int .u64 r12.2.2.1)].toArray 48 (0, 0)), viewA (ptr vb) img l] := hs40
            refine ops_done (by kernel_rfl) ?_
            refine hK38 _ _ ?_
            clear hK38
            refine W.seq fun K42 hK42 => ?_
            refine W.region ?_
            refine ops_run 2 (by kernel_rfl) ?_
            refine ops_R (runs_loadAgg (ad := ⟨b19, 0, none⟩) (cs := [(.bool false), (.int .u64 r12.2.1), (.int .u64 r12.2.2.1)]) (by kernel_rfl) (cells_sub (hs41.heapAt 0 rfl) rfl)) ?_
            obtain ⟨r43, h44, hm⟩ := bind_some hm
            have hs45 := St.f1 hs41
            refine ops_call1 hs45 (by kernel_rfl) (sput_walk (vb := vb) (i_ := i_) (ho_ := false) (hg_ := r12.2.1) (hk_ := r12.2.2.1) (img := img) (l := l) (hG2 := hG2) (hL := (hs41.oldCellsB hG2 hL)) (hm := h44) B _) ?_
            rintro _ _ w46 ⟨rfl, rfl⟩ hs47
            have hs48 := St.ap1 hs47
            refine ops_run 2 (by kernel_rfl) ?_
            refine ops_done (by kernel_rfl) ?_
            refine hK42 _ _ ?_
            clear hK42
            refine W.ret ?_
            obtain rfl := some_inj hm
            have hs49 := St.tk1 hs48
            refine ret_of (.tuple #[(.int .u8 0), (.int .i64 r43.1)]) (by kernel_rfl) ⟨_, ⟨rfl, rfl⟩, hs49⟩
          ·
            have h37p : ¬ (r12.1 = true) := ne_true_of_eq_false (bnot_true h37)
            replace hm := ite_no hm h37p
            refine W.seq fun K50 hK50 => ?_
            refine W.region ?_
            refine ops_run 2 (by kernel_rfl) ?_
            refine ops_done (by kernel_rfl) ?_
            refine hK50 _ _ ?_
            clear hK50
            refine W.ret (ret_block (ret_seq ?_))
            obtain rfl := some_inj hm
            have hs51 := St.f1 hs22
            have hs52 := St.tk1 hs51
            refine ret_of (.tuple #[(.int .u8 1), (.int .i64 0)]) (by kernel_rfl) ⟨_, ⟨rfl, rfl⟩, hs52⟩
    ·
      have h25p : ¬ (r12.2.2.2 = 0) := of_decide_eq_false (bnot_true h25)
      replace hm := ite_no hm h25p
      refine W.seq fun K53 hK53 => ?_
      refine W.region ?_
      refine ops_run 3 (by kernel_rfl) ?_
      refine ops_done (by kernel_rfl) ?_
      refine hK53 _ _ ?_
      clear hK53
      refine W.ret (ret_block (ret_seq ?_))
      obtain rfl := some_inj hm
      have hs54 := St.f1 hs22
      have hs55 := St.tk1 hs54
      refine ret_of (.tuple #[(.int .u8 0), (.int .i64 r12.2.2.2)]) (by kernel_rfl) ⟨_, ⟨rfl, rfl⟩, hs55⟩
  ·
    have h10p : ¬ (r4 = 0) := of_decide_eq_false (bnot_true h10)
    replace hm := ite_no hm h10p
    refine W.seq fun K56 hK56 => ?_
    refine W.region ?_
    refine ops_run 3 (by kernel_rfl) ?_
    refine ops_done (by kernel_rfl) ?_
    refine hK56 _ _ ?_
    clear hK56
    refine W.ret (ret_seq ?_)
    obtain rfl := some_inj hm
    refine ret_of (.tuple #[(.int .u8 0), (.int .i64 r4)]) (by kernel_rfl) ⟨_, ⟨rfl, rfl⟩, hs8⟩

end Go.Proofs.YthimamnblklkbaaDoor

/- What the code computes, by a program. -/
namespace Go.Proofs.YthimamnblklkbaaDoor
open Go Go.RowKit
set_option linter.unusedSimpArgs false
set_option linter.unusedVariables false

def ropened_J1 (r6 : Bool × Int × Int × Int) (p17 : Int) : Option (Bool × Int × Int × Int) :=
  some (r6.1, r6.2.1, r6.2.2.1, p17)

def ropened_M (img : List Int) (l : List (Int × Int)) (i_ : Int) (g_ : Int) : Option (Bool × Int × Int × Int) :=
  (rget10_M img l i_).bind fun r6 =>
if r6.2.2.2 = 0 then (if r6.1 = true then (if r6.2.1 = g_ then (ropened_J1 r6 r6.2.2.2) else (ropened_J1 r6 22)) else (ropened_J1 r6 22)) else (ropened_J1 r6 r6.2.2.2)

set_option maxRecDepth 20000 in
set_option maxHeartbeats 2000000 in
set_option linter.unusedVariables false in
theorem ropened_walk {img : List Int} {l : List (Int × Int)} {i_ : Int} {g_ : Int} {p : Value} {r : Bool × Int × Int × Int} (B : Nat) (w : World) (hv : RefAt p img l w) (hm : ropened_M img l i_ g_ = some r) : Spec Tryd.prog 131 #[p, (.int .i64 i_), (.int .u64 g_)] B w [] (fun v H' => v = (.tuple #[(.agg #[(.bool r.1), (.int .u64 r.2.1), (.int .u64 r.2.2.1)]), (.int .i64 r.2.2.2)]) ∧ H' = []) := by
  refine spec_Q Tryd.func131 rfl fun hs => ?_
  unfold ropened_M at hm
  have hv0 := hv
  obtain ⟨x, rfl, hok, hb, hi, ho, hcap⟩ := hv
  have hroom := hok.many
  have hroom2 := hok.size
  refine W.seq fun K1 hK1 => ?_
  refine W.region ?_
  refine ops_new (fun b => .pointer (some ⟨b, 0, none⟩)) (.cells [(.bool false), (.int .u64 0), (.int .u64 0)].toArray 73 (0, 0)) hs (by kernel_rfl) (fun b4 w2 hs3 => ?_)
  refine ops_run 1 (by kernel_rfl) ?_
  refine ops_done (by kernel_rfl) ?_
  refine hK1 _ _ ?_
  clear hK1
  refine W.seq fun K5 hK5 => ?_
  refine W.region ?_
  refine ops_run 2 (by kernel_rfl) ?_
  obtain ⟨r6, h7, hm⟩ := bind_some hm
  refine ops_call0 hs3 (by kernel_rfl) (rget10_walk (i_ := i_) (img := img) (l := l) (hv := (refAt_old hs3 hv0)) (hm := h7) B _) ?_
  rintro _ _ w8 ⟨rfl, rfl⟩ hs9
  have hs10 := St.ap0 hs9
  refine ops_run 3 (by kernel_rfl) ?_
  refine ops_new (fun b => .pointer (some ⟨b, 0, none⟩)) (.cells [(.bool false), (.int .u64 0), (.int .u64 0)].toArray 73 (0, 0)) hs10 (by kernel_rfl) (fun b13 w11 hs12 => ?_)
  refine ops_store (off := 0) (cs := [(.bool false), (.int .u64 0), (.int .u64 0)]) (vs := [(.bool r6.1), (.int .u64 r6.2.1), (.int .u64 r6.2.2.1)]) hs12 (by kernel_rfl) (by simp) rfl (fun w14 hs15 => ?_)
  have hs16 : St B w [] w14 [blk b13 (.cells [(.bool r6.1), (.int .u64 r6.2.1), (.int .u64 r6.2.2.1)].toArray 73 (0, 0)), blk b4 (.cells [(.bool false), (.int .u64 0), (.int .u64 0)].toArray 73 (0, 0))] := hs15
  refine ops_run 1 (by kernel_rfl) ?_
  refine ops_done (by kernel_rfl) ?_
  refine hK5 _ _ ?_
  clear hK5
  refine W.seq_join (fun s_ w_ => ∃ (p17 : Int), (∃ us, s_ = slots 31 [(6, (.pointer (some ⟨b4, 0, none⟩))), (8, (.pointer (some ⟨b13, 0, none⟩))), (9, (.int .i64 p17))] us) ∧ St B w [] w_ [blk b4 (.cells [(.bool false), (.int .u64 0), (.int .u64 0)].toArray 73 (0, 0)), blk b13 (.cells [(.bool r6.1), (.int .u64 r6.2.1), (.int .u64 r6.2.2.1)].toArray 73 (0, 0))] ∧ ropened_J1 r6 p17 = some r) ?_ ?_
  ·
    rintro _ w18 ⟨p17, ⟨us, rfl⟩, hs19, hm⟩
    unfold ropened_J1 at hm
    refine W.seq fun K20 hK20 => ?_
    refine W.region ?_
    refine ops_R (runs_loadAgg (ad := ⟨b13, 0, none⟩) (cs := [(.bool r6.1), (.int .u64 r6.2.1), (.int .u64 r6.2.2.1)]) (by kernel_rfl) (cells_sub (hs19.heapAt 1 rfl) rfl)) ?_
    refine ops_run 1 (by kernel_rfl) ?_
    refine ops_store (off := 0) (cs := [(.bool false), (.int .u64 0), (.int .u64 0)]) (vs := [(.bool r6.1), (.int .u64 r6.2.1), (.int .u64 r6.2.2.1)]) hs19 (by kernel_rfl) (by simp) rfl (fun w21 hs22 => ?_)
    have hs23 : St B w [] w21 [blk b4 (.cells [(.bool r6.1), (.int .u64 r6.2.1), (.int .u64 r6.2.2.1)].toArray 73 (0, 0)), blk b13 (.cells [(.bool r6.1), (.int .u64 r6.2.1), (.int .u64 r6.2.2.1)].toArray 73 (0, 0))] := hs22
    refine ops_run 1 (by kernel_rfl) ?_
    refine ops_done (by kernel_rfl) ?_
    refine hK20 _ _ ?_
    clear hK20
    refine W.ret ?_
    obtain rfl := some_inj hm
    have hs24 := St.tk0 hs23
    refine ret_of (.tuple #[(.agg #[(.bool r6.1), (.int .u64 r6.2.1), (.int .u64 r6.2.2.1)]), (.int .i64 p17)]) (resS_of (by kernel_rfl) (resD_two rfl (.agg (ad := ⟨b4, 0, none⟩) (cs := [(.bool r6.1), (.int .u64 r6.2.1), (.int .u64 r6.2.2.1)]) (by kernel_rfl) (by kernel_rfl) (cells_sub (hs23.heapAt 0 rfl) rfl)) (.tmp (by kernel_rfl)))) ⟨_, ⟨rfl, rfl⟩, hs24⟩
  ·
    refine W.seq fun K25 hK25 => ?_
    refine W.region ?_
    refine ops_run 3 (by kernel_rfl) ?_
    rcases Bool.eq_false_or_eq_true (decide (r6.2.2.2 = 0)) with h26 | h26
    ·
      have h26p : r6.2.2.2 = 0 := of_decide_eq_true h26
      replace hm := ite_yes hm h26p
      refine ops_set 18 (v := .bool true) (eq_bool_of (by kernel_rfl) h26) ?_
      refine ops_set 17 (v := .bool true) (eq_bool_of (by kernel_rfl) h26) ?_
      refine ops_run 1 (by kernel_rfl) ?_
      refine ops_R (runs_load (ad := ⟨b13, 0, none⟩) (v := (.bool r6.1)) (by kernel_rfl) (hs16.cellAt 0 rfl rfl)) ?_
      refine ops_run 2 (by kernel_rfl) ?_
      rcases Bool.eq_false_or_eq_true (!r6.1) with h27 | h27
      rotate_left
      ·
        have h27p : r6.1 = true := (bnot_false h27)
        replace hm := ite_yes hm h27p
        refine ops_set 22 (v := .bool false) (eq_bool_of (by kernel_rfl) h27) ?_
        refine ops_set 21 (v := .bool false) (eq_bool_of (by kernel_rfl) h27) ?_
        refine ops_run 1 (by kernel_rfl) ?_
        refine ops_R (runs_load (ad := ⟨b13, 1, none⟩) (v := (.int .u64 r6.2.1)) (by kernel_rfl) (hs16.cellAt 0 rfl rfl)) ?_
        refine ops_run 4 (by kernel_rfl) ?_
        refine ops_done (by kernel_rfl) ?_
        refine hK25 _ _ ?_
        clear hK25
        refine W.cond (!decide (r6.2.1 = g_)) (by kernel_rfl) (fun h28 => ?_) (fun h28 => ?_)
        rotate_left
        ·
          have h28p : r6.2.1 = g_ := of_decide_eq_true (bnot_false h28)
          replace hm := ite_yes hm h28p
          refine W.skip ?_
          have hs29 := St.f1 hs16
          exact ⟨r6.2.2.2, slots_intro _ (by kernel_rfl), hs29, hm⟩
        ·
          have h28p : ¬ (r6.2.1 = g_) := of_decide_eq_false (bnot_true h28)
          replace hm := ite_no hm h28p
          refine W.region ?_
          refine ops_run 1 (by kernel_rfl) ?_
          refine ops_done (by kernel_rfl) ?_
          have hs30 := St.f1 hs16
          exact ⟨22, slots_intro _ (by kernel_rfl), hs30, hm⟩
      ·
        have h27p : ¬ (r6.1 = true) := ne_true_of_eq_false (bnot_true h27)
        replace hm := ite_no hm h27p
        refine ops_set 22 (v := .bool true) (eq_bool_of (by kernel_rfl) h27) ?_
        refine ops_set 21 (v := .bool true) (eq_bool_of (by kernel_rfl) h27) ?_
        refine ops_run 6 (by kernel_rfl) ?_
        refine ops_done (by kernel_rfl) ?_
        refine hK25 _ _ ?_
        clear hK25
        refine W.cond_true true (by kernel_rfl) rfl ?_
        refine W.region ?_
        refine ops_run 1 (by kernel_rfl) ?_
        refine ops_done (by kernel_rfl) ?_
        have hs31 := St.f1 hs16
        exact ⟨22, slots_intro _ (by kernel_rfl), hs31, hm⟩
    ·
      have h26p : ¬ (r6.2.2.2 = 0) := of_decide_eq_false h26
      replace hm := ite_no hm h26p
      refine ops_set 18 (v := .bool false) (eq_bool_of (by kernel_rfl) h26) ?_
      refine ops_set 17 (v := .bool false) (eq_bool_of (by kernel_rfl) h26) ?_
      refine ops_run 10 (by kernel_rfl) ?_
      refine ops_done (by kernel_rfl) ?_
      refine hK25 _ _ ?_
      clear hK25
      refine W.cond_false false (by kernel_rfl) rfl ?_
      refine W.skip ?_
      have hs32 := St.f1 hs16
      exact ⟨r6.2.2.2, slots_intro _ (by kernel_rfl), hs32, hm⟩

end Go.Proofs.YthimamnblklkbaaDoor

/- What the code computes, by a program. -/
namespace Go.Proofs.YthimamnblklkbaaDoor
open Go Go.RowKit
set_option linter.unusedSimpArgs false
set_option linter.unusedVariables false

def rof_J1 (img : List Int) (l : List (Int × Int)) (i_ : Int) (g_ : Int) (q_ : Int) (p13 : Bool) : Option (Int × Int × Int × Int × ByteArray × Int) :=
  if p13 = true then (some (0, 0, 0, 0, ByteArray.empty, 1)) else ((ropened_M img l i_ g_).bind fun r24 =>
if r24.2.2.2 = 0 then (if q_ ≤ r24.2.2.1 then (some (2, 0, 0, 0, ByteArray.empty, 0)) else (if ((q_ - r24.2.2.1) % 18446744073709551616) > 4 then (some (3, 0, 0, 0, ByteArray.empty, 0)) else (need (-9223372036854775808 ≤ (q_.tmod 4) ∧ (q_.tmod 4) ≤ 9223372036854775807) <|
(rload_M img l i_ (q_.tmod 4)).bind fun r66 =>
if r66.2.2.2.2.2 = 0 then (if r66.1 = q_ then (some (1, r66.2.1, r66.2.2.1, r66.2.2.2.1, r66.2.2.2.2.1, 0)) else (some (0, 0, 0, 0, ByteArray.empty, 0))) else (some (0, 0, 0, 0, ByteArray.empty, r66.2.2.2.2.2))))) else (some (0, 0, 0, 0, ByteArray.empty, r24.2.2.2)))

def rof_M (img : List Int) (l : List (Int × Int)) (i_ : Int) (g_ : Int) (q_ : Int) : Option (Int × Int × Int × Int × ByteArray × Int) :=
  if q_ < 1 then (rof_J1 img l i_ g_ q_ true) else (rof_J1 img l i_ g_ q_ (decide (q_ > 1099511627776)))

set_option maxRecDepth 20000 in
set_option maxHeartbeats 2000000 in
set_option linter.unusedVariables false in
theorem rof_walk {img : List Int} {l : List (Int × Int)} {i_ : Int} {g_ : Int} {q_ : Int} {p : Value} {r : Int × Int × Int × Int × ByteArray × Int} (B : Nat) (w : World) (hv : RefAt p img l w) (hm : rof_M img l i_ g_ q_ = some r) : Spec Tryd.prog 67 #[p, (.int .i64 i_), (.int .u64 g_), (.int .u64 q_)] B w [] (fun v H' => v = (.tuple #[(.int .i64 r.1), (.agg #[(.int .i64 r.2.1), (.int .u64 r.2.2.1), (.int .u64 r.2.2.2.1), (.string r.2.2.2.2.1)]), (.int .i64 r.2.2.2.2.2)]) ∧ H' = []) := by
  refine spec_Q Tryd.func67 rfl fun hs => ?_
  unfold rof_M at hm
  have hv0 := hv
  obtain ⟨x, rfl, hok, hb, hi, ho, hcap⟩ := hv
  have hroom := hok.many
  have hroom2 := hok.size
  refine W.seq fun K1 hK1 => ?_
  refine W.region ?_
  refine ops_run 1 (by kernel_rfl) ?_
  refine ops_new (fun b => .pointer (some ⟨b, 0, none⟩)) (.cells [(.int .i64 0), (.int .u64 0), (.int .u64 0), (.string ByteArray.empty)].toArray 46 (0, 0)) hs (by kernel_rfl) (fun b4 w2 hs3 => ?_)
  refine ops_run 1 (by kernel_rfl) ?_
  refine ops_done (by kernel_rfl) ?_
  refine hK1 _ _ ?_
  clear hK1
  refine W.seq fun K5 hK5 => ?_
  refine W.region ?_
  refine ops_run 1 (by kernel_rfl) ?_
  refine ops_new (fun b => .pointer (some ⟨b, 0, none⟩)) (.cells [(.int .i64 0), (.int .u64 0), (.int .u64 0), (.string ByteArray.empty)].toArray 46 (0, 0)) hs3 (by kernel_rfl) (fun b8 w6 hs7 => ?_)
  refine ops_store (off := 0) (cs := [(.int .i64 0), (.int .u64 0), (.int .u64 0), (.string ByteArray.empty)]) (vs := [(.int .i64 0), (.int .u64 0), (.int .u64 0), (.string ByteArray.empty)]) hs7 (by kernel_rfl) (by simp) rfl (fun w9 hs10 => ?_)
  have hs11 : St B w [] w9 [blk b8 (.cells [(.int .i64 0), (.int .u64 0), (.int .u64 0), (.string ByteArray.empty)].toArray 46 (0, 0)), blk b4 (.cells [(.int .i64 0), (.int .u64 0), (.int .u64 0), (.string ByteArray.empty)].toArray 46 (0, 0))] := hs10
  refine ops_done (by kernel_rfl) ?_
  refine hK5 _ _ ?_
  clear hK5
  refine W.seq fun K12 hK12 => ?_
  refine W.seq_join (fun s_ w_ => ∃ (p13 : Bool), (∃ us, s_ = slots 65 [(0, (.pointer (some ⟨x.b, 0, none⟩))), (1, (.int .i64 i_)), (2, (.int .u64 g_)), (3, (.int .u64 q_)), (9, (.pointer (some ⟨b4, 0, none⟩))), (11, (.pointer (some ⟨b8, 0, none⟩))), (22, (.bool p13))] us) ∧ St B w [] w_ [blk b4 (.cells [(.int .i64 0), (.int .u64 0), (.int .u64 0), (.string ByteArray.empty)].toArray 46 (0, 0)), blk b8 (.cells [(.int .i64 0), (.int .u64 0), (.int .u64 0), (.string ByteArray.empty)].toArray 46 (0, 0))] ∧ rof_J1 img l i_ g_ q_ p13 = some r) ?_ ?_
  ·
    rintro _ w14 ⟨p13, ⟨us, rfl⟩, hs15, hm⟩
    unfold rof_J1 at hm
    refine W.cond p13 (by kernel_rfl) (fun h16 => ?_) (fun h16 => ?_)
    ·
      have h16p : p13 = true := h16
      replace hm := ite_yes hm h16p
      refine W.seq fun K17 hK17 => ?_
      have hs18 := hs15.drew
      refine W.regionD [(0, 0), (0, 0), (3, 1), (7, 0)] (fun w_ => St B w [] w_ [blk b4 (.cells [(.int .i64 0), (.int .u64 0), (.int .u64 0), (.string ByteArray.empty)].toArray 46 (0, 0)), blk b8 (.cells [(.int .i64 0), (.int .u64 0), (.int .u64 0), (.string ByteArray.empty)].toArray 46 (0, 0))]) (by kernel_rfl) hs18 ?_
      refine any_R 0 (by kernel_rfl) (fun _ hS_ => runs_loadAgg (ad := ⟨b8, 0, none⟩) (cs := [(.int .i64 0), (.int .u64 0), (.int .u64 0), (.string ByteArray.empty)]) (by kernel_rfl) (cells_sub (hS_.heapAt 1 rfl) rfl)) hs18 ?_
      refine any_val (v := (.int .i64 0)) (v' := (.int .i64 0)) 1 (by kernel_rfl) (fun _ => by kernel_rfl) rfl hs18 ?_
      refine any_step 2 (by kernel_rfl) (by kernel_rfl) ?_
      refine ops_store (off := 0) (cs := [(.int .i64 0), (.int .u64 0), (.int .u64 0), (.string ByteArray.empty)]) (vs := [(.int .i64 0), (.int .u64 0), (.int .u64 0), (.string ByteArray.empty)]) hs18 (by kernel_rfl) (by simp) rfl (fun w19 hs20 => ?_)
      have hs21 : St B w [] w19 [blk b4 (.cells [(.int .i64 0), (.int .u64 0), (.int .u64 0), (.string ByteArray.empty)].toArray 46 (0, 0)), blk b8 (.cells [(.int .i64 0), (.int .u64 0), (.int .u64 0), (.string ByteArray.empty)].toArray 46 (0, 0))] := hs20
      refine ops_done (by kernel_rfl) ⟨hs21, ?_⟩
      refine any_val (v := (.int .i64 1)) (v' := (.int .i64 1)) 3 (by kernel_rfl) (fun _ => by kernel_rfl) rfl hs21 ?_
      refine any_done (by kernel_rfl) ?_
      refine hK17 _ _ ?_
      clear hK17
      refine W.ret (ret_seq ?_)
      obtain rfl := some_inj hm
      have hs22 := St.tk0 hs21
      refine ret_of (.tuple #[(.int .i64 0), (.agg #[(.int .i64 0), (.int .u64 0), (.int .u64 0), (.string ByteArray.empty)]), (.int .i64 1)]) (resS_of (by kernel_rfl) (resD_three rfl (.tmp (by kernel_rfl)) (.agg (ad := ⟨b4, 0, none⟩) (cs := [(.int .i64 0), (.int .u64 0), (.int .u64 0), (.string ByteArray.empty)]) (by kernel_rfl) (by kernel_rfl) (cells_sub (hs21.heapAt 0 rfl) rfl)) (.tmp (by kernel_rfl)))) ⟨_, ⟨rfl, rfl⟩, hs22⟩
    ·
      have h16p : ¬ (p13 = true) := ne_true_of_eq_false h16
      replace hm := ite_no hm h16p
      refine W.skip ?_
      refine hK12 _ _ ?_
      clear hK12
      refine W.seq fun K23 hK23 => ?_
      refine W.region ?_
      refine ops_run 3 (by kernel_rfl) ?_
      obtain ⟨r24, h25, hm⟩ := bind_some hm
      refine ops_call0 hs15 (by kernel_rfl) (ropened_walk (i_ := i_) (g_ := g_) (img := img) (l := l) (hv := (refAt_old hs15 hv0)) (hm := h25) B _) ?_
      rintro _ _ w26 ⟨rfl, rfl⟩ hs27
      have hs28 := St.ap0 hs27
      refine ops_run 3 (by kernel_rfl) ?_
      refine ops_new (fun b => .pointer (some ⟨b, 0, none⟩)) (.cells [(.bool false), (.int .u64 0), (.int .u64 0)].toArray 73 (0, 0)) hs28 (by kernel_rfl) (fun b31 w29 hs30 => ?_)
      refine ops_store (off := 0) (cs := [(.bool false), (.int .u64 0), (.int .u64 0)]) (vs := [(.bool r24.1), (.int .u64 r24.2.1), (.int .u64 r24.2.2.1)]) hs30 (by kernel_rfl) (by simp) rfl (fun w32 hs33 => ?_)
      have hs34 : St B w [] w32 [blk b31 (.cells [(.bool r24.1), (.int .u64 r24.2.1), (.int .u64 r24.2.2.1)].toArray 73 (0, 0)), blk b4 (.cells [(.int .i64 0), (.int .u64 0), (.int .u64 0), (.string ByteArray.empty)].toArray 46 (0, 0)), blk b8 (.cells [(.int .i64 0), (.int .u64 0), (.int .u64 0), (.string ByteArray.empty)].toArray 46 (0, 0))] := hs33
      refine ops_run 1 (by kernel_rfl) ?_
      refine ops_done (by kernel_rfl) ?_
      refine hK23 _ _ ?_
      clear hK23
      refine W.seq fun K35 hK35 => ?_
      refine W.seq fun K36 hK36 => ?_
      refine W.region ?_
      refine ops_run 2 (by kernel_rfl) ?_
      refine ops_done (by kernel_rfl) ?_
      refine hK36 _ _ ?_
      clear hK36
      refine W.cond (!decide (r24.2.2.2 = 0)) (by kernel_rfl) (fun h37 => ?_) (fun h37 => ?_)
      rotate_left
      ·
        have h37p : r24.2.2.2 = 0 := of_decide_eq_true (bnot_false h37)
        replace hm := ite_yes hm h37p
        refine W.skip ?_
        refine hK35 _ _ ?_
        clear hK35
        refine W.seq fun K38 hK38 => ?_
        refine W.seq fun K39 hK39 => ?_
        refine W.region ?_
        refine ops_run 2 (by kernel_rfl) ?_
        refine ops_R (runs_load (ad := ⟨b31, 2, none⟩) (v := (.int .u64 r24.2.2.1)) (by kernel_rfl) (hs34.cellAt 0 rfl rfl)) ?_
        refine ops_run 1 (by kernel_rfl) ?_
        refine ops_done (by kernel_rfl) ?_
        refine hK39 _ _ ?_
        clear hK39
        refine W.cond (decide (q_ ≤ r24.2.2.1)) (by kernel_rfl) (fun h40 => ?_) (fun h40 => ?_)
        ·
          have h40p : q_ ≤ r24.2.2.1 := of_decide_eq_true h40
          replace hm := ite_yes hm h40p
          refine W.seq fun K41 hK41 => ?_
          have hs42 := hs34.drew
          refine W.regionD [(0, 0), (0, 0), (3, 1), (7, 0)] (fun w_ => St B w [] w_ [blk b31 (.cells [(.bool r24.1), (.int .u64 r24.2.1), (.int .u64 r24.2.2.1)].toArray 73 (0, 0)), blk b4 (.cells [(.int .i64 0), (.int .u64 0), (.int .u64 0), (.string ByteArray.empty)].toArray 46 (0, 0)), blk b8 (.cells [(.int .i64 0), (.int .u64 0), (.int .u64 0), (.string ByteArray.empty)].toArray 46 (0, 0))]) (by kernel_rfl) hs42 ?_
          refine any_R 0 (by kernel_rfl) (fun _ hS_ => runs_loadAgg (ad := ⟨b8, 0, none⟩) (cs := [(.int .i64 0), (.int .u64 0), (.int .u64 0), (.string ByteArray.empty)]) (by kernel_rfl) (cells_sub (hS_.heapAt 2 rfl) rfl)) hs42 ?_
          refine any_val (v := (.int .i64 2)) (v' := (.int .i64 2)) 1 (by kernel_rfl) (fun _ => by kernel_rfl) rfl hs42 ?_
          refine any_step 2 (by kernel_rfl) (by kernel_rfl) ?_
          have hs45 := St.f1 hs42
          refine ops_store (off := 0) (cs := [(.int .i64 0), (.int .u64 0), (.int .u64 0), (.string ByteArray.empty)]) (vs := [(.int .i64 0), (.int .u64 0), (.int .u64 0), (.string ByteArray.empty)]) hs45 (by kernel_rfl) (by simp) rfl (fun w43 hs44 => ?_)
          have hs46 : St B w [] w43 [blk b4 (.cells [(.int .i64 0), (.int .u64 0), (.int .u64 0), (.string ByteArray.empty)].toArray 46 (0, 0)), blk b31 (.cells [(.bool r24.1), (.int .u64 r24.2.1), (.int .u64 r24.2.2.1)].toArray 73 (0, 0)), blk b8 (.cells [(.int .i64 0), (.int .u64 0), (.int .u64 0), (.string ByteArray.empty)].toArray 46 (0, 0))] := hs44
          have hs47 := St.f2 hs46
          have hs48 := St.f1 hs47
          have hs49 := St.f2 hs48
          refine ops_done (by kernel_rfl) ⟨hs49, ?_⟩
          refine any_val (v := (.int .i64 0)) (v' := (.int .i64 0)) 3 (by kernel_rfl) (fun _ => by kernel_rfl) rfl hs49 ?_
          refine any_done (by kernel_rfl) ?_
          refine hK41 _ _ ?_
          clear hK41
          refine W.ret (ret_seq ?_)
          obtain rfl := some_inj hm
          have hs50 := St.tk0 hs46
          refine ret_of (.tuple #[(.int .i64 2), (.agg #[(.int .i64 0), (.int .u64 0), (.int .u64 0), (.string ByteArray.empty)]), (.int .i64 0)]) (resS_of (by kernel_rfl) (resD_three rfl (.tmp (by kernel_rfl)) (.agg (ad := ⟨b4, 0, none⟩) (cs := [(.int .i64 0), (.int .u64 0), (.int .u64 0), (.string ByteArray.empty)]) (by kernel_rfl) (by kernel_rfl) (cells_sub (hs46.heapAt 0 rfl) rfl)) (.tmp (by kernel_rfl)))) ⟨_, ⟨rfl, rfl⟩, hs50⟩
        ·
          have h40p : ¬ (q_ ≤ r24.2.2.1) := of_decide_eq_false h40
          replace hm := ite_no hm h40p
          refine W.skip ?_
          refine hK38 _ _ ?_
          clear hK38
          refine W.seq fun K51 hK51 => ?_
          refine W.seq fun K52 hK52 => ?_
          refine W.region ?_
          refine ops_run 2 (by kernel_rfl) ?_
          refine ops_R (runs_load (ad := ⟨b31, 2, none⟩) (v := (.int .u64 r24.2.2.1)) (by kernel_rfl) (hs34.cellAt 0 rfl rfl)) ?_
          refine ops_val (v := .int .u64 (IntKind.u64.wrap (q_ - r24.2.2.1))) (v' := .int .u64 ((q_ - r24.2.2.1) % 18446744073709551616)) (by kernel_rfl) (congrArg (Value.int .u64) (wrap_u64_mod _)) ?_
          refine ops_run 1 (by kernel_rfl) ?_
          refine ops_done (by kernel_rfl) ?_
          refine hK52 _ _ ?_
          clear hK52
          refine W.cond (decide (((q_ - r24.2.2.1) % 18446744073709551616) > 4)) (by kernel_rfl) (fun h53 => ?_) (fun h53 => ?_)
          ·
            have h53p : ((q_ - r24.2.2.1) % 18446744073709551616) > 4 := of_decide_eq_true h53
            replace hm := ite_yes hm h53p
            refine W.seq fun K54 hK54 => ?_
            have hs55 := hs34.drew
            refine W.regionD [(0, 0), (0, 0), (3, 1), (7, 0)] (fun w_ => St B w [] w_ [blk b31 (.cells [(.bool r24.1), (.int .u64 r24.2.1), (.int .u64 r24.2.2.1)].toArray 73 (0, 0)), blk b4 (.cells [(.int .i64 0), (.int .u64 0), (.int .u64 0), (.string ByteArray.empty)].toArray 46 (0, 0)), blk b8 (.cells [(.int .i64 0), (.int .u64 0), (.int .u64 0), (.string ByteArray.empty)].toArray 46 (0, 0))]) (by kernel_rfl) hs55 ?_
            refine any_R 0 (by kernel_rfl) (fun _ hS_ => runs_loadAgg (ad := ⟨b8, 0, none⟩) (cs := [(.int .i64 0), (.int .u64 0), (.int .u64 0), (.string ByteArray.empty)]) (by kernel_rfl) (cells_sub (hS_.heapAt 2 rfl) rfl)) hs55 ?_
            refine any_val (v := (.int .i64 3)) (v' := (.int .i64 3)) 1 (by kernel_rfl) (fun _ => by kernel_rfl) rfl hs55 ?_
            refine any_step 2 (by kernel_rfl) (by kernel_rfl) ?_
            have hs58 := St.f1 hs55
            refine ops_store (off := 0) (cs := [(.int .i64 0), (.int .u64 0), (.int .u64 0), (.string ByteArray.empty)]) (vs := [(.int .i64 0), (.int .u64 0), (.int .u64 0), (.string ByteArray.empty)]) hs58 (by kernel_rfl) (by simp) rfl (fun w56 hs57 => ?_)
            have hs59 : St B w [] w56 [blk b4 (.cells [(.int .i64 0), (.int .u64 0), (.int .u64 0), (.string ByteArray.empty)].toArray 46 (0, 0)), blk b31 (.cells [(.bool r24.1), (.int .u64 r24.2.1), (.int .u64 r24.2.2.1)].toArray 73 (0, 0)), blk b8 (.cells [(.int .i64 0), (.int .u64 0), (.int .u64 0), (.string ByteArray.empty)].toArray 46 (0, 0))] := hs57
            have hs60 := St.f2 hs59
            have hs61 := St.f1 hs60
            have hs62 := St.f2 hs61
            refine ops_done (by kernel_rfl) ⟨hs62, ?_⟩
            refine any_val (v := (.int .i64 0)) (v' := (.int .i64 0)) 3 (by kernel_rfl) (fun _ => by kernel_rfl) rfl hs62 ?_
            refine any_done (by kernel_rfl) ?_
            refine hK54 _ _ ?_
            clear hK54
            refine W.ret (ret_seq ?_)
            obtain rfl := some_inj hm
            have hs63 := St.tk0 hs59
            refine ret_of (.tuple #[(.int .i64 3), (.agg #[(.int .i64 0), (.int .u64 0), (.int .u64 0), (.string ByteArray.empty)]), (.int .i64 0)]) (resS_of (by kernel_rfl) (resD_three rfl (.tmp (by kernel_rfl)) (.agg (ad := ⟨b4, 0, none⟩) (cs := [(.int .i64 0), (.int .u64 0), (.int .u64 0), (.string ByteArray.empty)]) (by kernel_rfl) (by kernel_rfl) (cells_sub (hs59.heapAt 0 rfl) rfl)) (.tmp (by kernel_rfl)))) ⟨_, ⟨rfl, rfl⟩, hs63⟩
          ·
            have h53p : ¬ (((q_ - r24.2.2.1) % 18446744073709551616) > 4) := of_decide_eq_false h53
            replace hm := ite_no hm h53p
            refine W.skip ?_
            refine hK51 _ _ ?_
            clear hK51
            refine W.seq fun K64 hK64 => ?_
            refine W.region ?_
            refine ops_run 4 (by kernel_rfl) ?_
            obtain ⟨h65, hm⟩ := need_some hm
            refine ops_val (v := .int .i64 (IntKind.i64.wrap (q_.tmod 4))) (v' := .int .i64 (q_.tmod 4)) (by kernel_rfl) (congrArg (Value.int .i64) (wrap_i64 h65.1 h65.2)) ?_
            obtain ⟨r66, h67, hm⟩ := bind_some hm
            refine ops_call0 hs34 (by kernel_rfl) (rload_walk (i_ := i_) (k_ := q_.tmod 4) (img := img) (l := l) (hv := (refAt_old hs34 hv0)) (hm := h67) B _) ?_
            rintro _ _ w68 ⟨rfl, rfl⟩ hs69
            have hs70 := St.ap0 hs69
            refine ops_run 4 (by kernel_rfl) ?_
            refine ops_new (fun b => .pointer (some ⟨b, 0, none⟩)) (.cells [(.int .i64 0), (.int .u64 0), (.int .u64 0), (.string ByteArray.empty)].toArray 46 (0, 0)) hs70 (by kernel_rfl) (fun b73 w71 hs72 => ?_)
            refine ops_run 1 (by kernel_rfl) ?_
            refine ops_store (off := 0) (cs := [(.int .i64 0), (.int .u64 0), (.int .u64 0), (.string ByteArray.empty)]) (vs := [(.int .i64 r66.2.1), (.int .u64 r66.2.2.1), (.int .u64 r66.2.2.2.1), (.string r66.2.2.2.2.1)]) hs72 (by kernel_rfl) (by simp) rfl (fun w74 hs75 => ?_)
            have hs76 : St B w [] w74 [blk b73 (.cells [(.int .i64 r66.2.1), (.int .u64 r66.2.2.1), (.int .u64 r66.2.2.2.1), (.string r66.2.2.2.2.1)].toArray 46 (0, 0)), blk b31 (.cells [(.bool r24.1), (.int .u64 r24.2.1), (.int .u64 r24.2.2.1)].toArray 73 (0, 0)), blk b4 (.cells [(.int .i64 0), (.int .u64 0), (.int .u64 0), (.string ByteArray.empty)].toArray 46 (0, 0)), blk b8 (.cells [(.int .i64 0), (.int .u64 0), (.int .u64 0), (.string ByteArray.empty)].toArray 46 (0, 0))] := hs75
            refine ops_run 1 (by kernel_rfl) ?_
            refine ops_done (by kernel_rfl) ?_
            refine hK64 _ _ ?_
            clear hK64
            refine W.seq fun K77 hK77 => ?_
            refine W.seq fun K78 hK78 => ?_
            refine W.region ?_
            refine ops_run 2 (by kernel_rfl) ?_
            refine ops_done (by kernel_rfl) ?_
            refine hK78 _ _ ?_
            clear hK78
            refine W.cond (!decide (r66.2.2.2.2.2 = 0)) (by kernel_rfl) (fun h79 => ?_) (fun h79 => ?_)
            rotate_left
            ·
              have h79p : r66.2.2.2.2.2 = 0 := of_decide_eq_true (bnot_false h79)
              replace hm := ite_yes hm h79p
              refine W.skip ?_
              refine hK77 _ _ ?_
              clear hK77
              refine W.seq fun K80 hK80 => ?_
              refine W.seq fun K81 hK81 => ?_
              refine W.region ?_
              refine ops_run 3 (by kernel_rfl) ?_
              refine ops_done (by kernel_rfl) ?_
              refine hK81 _ _ ?_
              clear hK81
              refine W.cond (decide (r66.1 = q_)) (by kernel_rfl) (fun h82 => ?_) (fun h82 => ?_)
              ·
                have h82p : r66.1 = q_ := of_decide_eq_true h82
                replace hm := ite_yes hm h82p
                refine W.seq fun K83 hK83 => ?_
                have hs84 := hs76.drew
                have hs85 := St.f3 hs84
                have hs86 := St.f2 hs85
                have hs87 := St.f2 hs86
                have hs88 := St.tk3 hs87
                refine W.regionD [(0, 0), (0, 0), (3, 1), (7, 0)] (fun w_ => St B w [] w_ [blk b73 (.cells [(.int .i64 r66.2.1), (.int .u64 r66.2.2.1), (.int .u64 r66.2.2.2.1), (.string r66.2.2.2.2.1)].toArray 46 (0, 0)), blk b31 (.cells [(.bool r24.1), (.int .u64 r24.2.1), (.int .u64 r24.2.2.1)].toArray 73 (0, 0)), blk b8 (.cells [(.int .i64 0), (.int .u64 0), (.int .u64 0), (.string ByteArray.empty)].toArray 46 (0, 0))]) (by kernel_rfl) hs88 ?_
                refine any_R 0 (by kernel_rfl) (fun _ hS_ => runs_loadAgg (ad := ⟨b73, 0, none⟩) (cs := [(.int .i64 r66.2.1), (.int .u64 r66.2.2.1), (.int .u64 r66.2.2.2.1), (.string r66.2.2.2.2.1)]) (by kernel_rfl) (cells_sub (hS_.heapAt 0 rfl) rfl)) hs88 ?_
                refine any_val (v := (.int .i64 1)) (v' := (.int .i64 1)) 1 (by kernel_rfl) (fun _ => by kernel_rfl) rfl hs88 ?_
                refine any_step 2 (by kernel_rfl) (by kernel_rfl) ?_
                have hs91 := St.f2 hs84
                refine ops_store (off := 0) (cs := [(.int .i64 0), (.int .u64 0), (.int .u64 0), (.string ByteArray.empty)]) (vs := [(.int .i64 r66.2.1), (.int .u64 r66.2.2.1), (.int .u64 r66.2.2.2.1), (.string r66.2.2.2.2.1)]) hs91 (by kernel_rfl) (by simp) rfl (fun w89 hs90 => ?_)
                have hs92 : St B w [] w89 [blk b4 (.cells [(.int .i64 r66.2.1), (.int .u64 r66.2.2.1), (.int .u64 r66.2.2.2.1), (.string r66.2.2.2.2.1)].toArray 46 (0, 0)), blk b73 (.cells [(.int .i64 r66.2.1), (.int .u64 r66.2.2.1), (.int .u64 r66.2.2.2.1), (.string r66.2.2.2.2.1)].toArray 46 (0, 0)), blk b31 (.cells [(.bool r24.1), (.int .u64 r24.2.1), (.int .u64 r24.2.2.1)].toArray 73 (0, 0)), blk b8 (.cells [(.int .i64 0), (.int .u64 0), (.int .u64 0), (.string ByteArray.empty)].toArray 46 (0, 0))] := hs90
                have hs93 := St.f3 hs92
                have hs94 := St.f3 hs93
                have hs95 := St.f3 hs94
                have hs96 := St.tk3 hs95
                refine ops_done (by kernel_rfl) ⟨hs96, ?_⟩
                refine any_val (v := (.int .i64 0)) (v' := (.int .i64 0)) 3 (by kernel_rfl) (fun _ => by kernel_rfl) rfl hs96 ?_
                refine any_done (by kernel_rfl) ?_
                refine hK83 _ _ ?_
                clear hK83
                refine W.ret (ret_seq ?_)
                obtain rfl := some_inj hm
                have hs97 := St.tk0 hs92
                refine ret_of (.tuple #[(.int .i64 1), (.agg #[(.int .i64 r66.2.1), (.int .u64 r66.2.2.1), (.int .u64 r66.2.2.2.1), (.string r66.2.2.2.2.1)]), (.int .i64 0)]) (resS_of (by kernel_rfl) (resD_three rfl (.tmp (by kernel_rfl)) (.agg (ad := ⟨b4, 0, none⟩) (cs := [(.int .i64 r66.2.1), (.int .u64 r66.2.2.1), (.int .u64 r66.2.2.2.1), (.string r66.2.2.2.2.1)]) (by kernel_rfl) (by kernel_rfl) (cells_sub (hs92.heapAt 0 rfl) rfl)) (.tmp (by kernel_rfl)))) ⟨_, ⟨rfl, rfl⟩, hs97⟩
              ·
                have h82p : ¬ (r66.1 = q_) := of_decide_eq_false h82
                replace hm := ite_no hm h82p
                refine W.skip ?_
                refine hK80 _ _ ?_
                clear hK80
                refine W.seq fun K98 hK98 => ?_
                have hs99 := hs76.drew
                refine W.regionD [(0, 0), (0, 0), (3, 1), (7, 0)] (fun w_ => St B w [] w_ [blk b73 (.cells [(.int .i64 r66.2.1), (.int .u64 r66.2.2.1), (.int .u64 r66.2.2.2.1), (.string r66.2.2.2.2.1)].toArray 46 (0, 0)), blk b31 (.cells [(.bool r24.1), (.int .u64 r24.2.1), (.int .u64 r24.2.2.1)].toArray 73 (0, 0)), blk b4 (.cells [(.int .i64 0), (.int .u64 0), (.int .u64 0), (.string ByteArray.empty)].toArray 46 (0, 0)), blk b8 (.cells [(.int .i64 0), (.int .u64 0), (.int .u64 0), (.string ByteArray.empty)].toArray 46 (0, 0))]) (by kernel_rfl) hs99 ?_
                refine any_R 0 (by kernel_rfl) (fun _ hS_ => runs_loadAgg (ad := ⟨b8, 0, none⟩) (cs := [(.int .i64 0), (.int .u64 0), (.int .u64 0), (.string ByteArray.empty)]) (by kernel_rfl) (cells_sub (hS_.heapAt 3 rfl) rfl)) hs99 ?_
                refine any_val (v := (.int .i64 0)) (v' := (.int .i64 0)) 1 (by kernel_rfl) (fun _ => by kernel_rfl) rfl hs99 ?_
                refine any_step 2 (by kernel_rfl) (by kernel_rfl) ?_
                have hs102 := St.f2 hs99
                refine ops_store (off := 0) (cs := [(.int .i64 0), (.int .u64 0), (.int .u64 0), (.string ByteArray.empty)]) (vs := [(.int .i64 0), (.int .u64 0), (.int .u64 0), (.string ByteArray.empty)]) hs102 (by kernel_rfl) (by simp) rfl (fun w100 hs101 => ?_)
                have hs103 : St B w [] w100 [blk b4 (.cells [(.int .i64 0), (.int .u64 0), (.int .u64 0), (.string ByteArray.empty)].toArray 46 (0, 0)), blk b73 (.cells [(.int .i64 r66.2.1), (.int .u64 r66.2.2.1), (.int .u64 r66.2.2.2.1), (.string r66.2.2.2.2.1)].toArray 46 (0, 0)), blk b31 (.cells [(.bool r24.1), (.int .u64 r24.2.1), (.int .u64 r24.2.2.1)].toArray 73 (0, 0)), blk b8 (.cells [(.int .i64 0), (.int .u64 0), (.int .u64 0), (.string ByteArray.empty)].toArray 46 (0, 0))] := hs101
                have hs104 := St.f3 hs103
                have hs105 := St.f1 hs104
                have hs106 := St.f3 hs105
                have hs107 := St.f3 hs106
                refine ops_done (by kernel_rfl) ⟨hs107, ?_⟩
                refine any_val (v := (.int .i64 0)) (v' := (.int .i64 0)) 3 (by kernel_rfl) (fun _ => by kernel_rfl) rfl hs107 ?_
                refine any_done (by kernel_rfl) ?_
                refine hK98 _ _ ?_
                clear hK98
                refine W.ret ?_
                obtain rfl := some_inj hm
                have hs108 := St.tk0 hs103
                refine ret_of (.tuple #[(.int .i64 0), (.agg #[(.int .i64 0), (.int .u64 0), (.int .u64 0), (.string ByteArray.empty)]), (.int .i64 0)]) (resS_of (by kernel_rfl) (resD_three rfl (.tmp (by kernel_rfl)) (.agg (ad := ⟨b4, 0, none⟩) (cs := [(.int .i64 0), (.int .u64 0), (.int .u64 0), (.string ByteArray.empty)]) (by kernel_rfl) (by kernel_rfl) (cells_sub (hs103.heapAt 0 rfl) rfl)) (.tmp (by kernel_rfl)))) ⟨_, ⟨rfl, rfl⟩, hs108⟩
            ·
              have h79p : ¬ (r66.2.2.2.2.2 = 0) := of_decide_eq_false (bnot_true h79)
              replace hm := ite_no hm h79p
              refine W.seq fun K109 hK109 => ?_
              have hs110 := hs76.drew
              refine W.regionD [(0, 0), (0, 0), (0, 0), (5, 1), (15, 2)] (fun w_ => St B w [] w_ [blk b73 (.cells [(.int .i64 r66.2.1), (.int .u64 r66.2.2.1), (.int .u64 r66.2.2.2.1), (.string r66.2.2.2.2.1)].toArray 46 (0, 0)), blk b31 (.cells [(.bool r24.1), (.int .u64 r24.2.1), (.int .u64 r24.2.2.1)].toArray 73 (0, 0)), blk b4 (.cells [(.int .i64 0), (.int .u64 0), (.int .u64 0), (.string ByteArray.empty)].toArray 46 (0, 0)), blk b8 (.cells [(.int .i64 0), (.int .u64 0), (.int .u64 0), (.string ByteArray.empty)].toArray 46 (0, 0))]) (by kernel_rfl) hs110 ?_
              refine any_R 0 (by kernel_rfl) (fun _ hS_ => runs_loadAgg (ad := ⟨b8, 0, none⟩) (cs := [(.int .i64 0), (.int .u64 0), (.int .u64 0), (.string ByteArray.empty)]) (by kernel_rfl) (cells_sub (hS_.heapAt 3 rfl) rfl)) hs110 ?_
              refine any_val (v := (.int .i64 r66.2.2.2.2.2)) (v' := (.int .i64 r66.2.2.2.2.2)) 1 (by kernel_rfl) (fun _ => by kernel_rfl) rfl hs110 ?_
              refine any_val (v := (.int .i64 0)) (v' := (.int .i64 0)) 2 (by kernel_rfl) (fun _ => by kernel_rfl) rfl hs110 ?_
              refine any_step 3 (by kernel_rfl) (by kernel_rfl) ?_
              have hs113 := St.f2 hs110
              refine ops_store (off := 0) (cs := [(.int .i64 0), (.int .u64 0), (.int .u64 0), (.string ByteArray.empty)]) (vs := [(.int .i64 0), (.int .u64 0), (.int .u64 0), (.string ByteArray.empty)]) hs113 (by kernel_rfl) (by simp) rfl (fun w111 hs112 => ?_)
              have hs114 : St B w [] w111 [blk b4 (.cells [(.int .i64 0), (.int .u64 0), (.int .u64 0), (.string ByteArray.empty)].toArray 46 (0, 0)), blk b73 (.cells [(.int .i64 r66.2.1), (.int .u64 r66.2.2.1), (.int .u64 r66.2.2.2.1), (.string r66.2.2.2.2.1)].toArray 46 (0, 0)), blk b31 (.cells [(.bool r24.1), (.int .u64 r24.2.1), (.int .u64 r24.2.2.1)].toArray 73 (0, 0)), blk b8 (.cells [(.int .i64 0), (.int .u64 0), (.int .u64 0), (.string ByteArray.empty)].toArray 46 (0, 0))] := hs112
              have hs115 := St.f3 hs114
              have hs116 := St.f1 hs115
              have hs117 := St.f3 hs116
              have hs118 := St.f3 hs117
              refine ops_done (by kernel_rfl) ⟨hs118, ?_⟩
              refine any_val (v := (.int .i64 r66.2.2.2.2.2)) (v' := (.int .i64 r66.2.2.2.2.2)) 4 (by kernel_rfl) (fun _ => by kernel_rfl) rfl hs118 ?_
              refine any_done (by kernel_rfl) ?_
              refine hK109 _ _ ?_
              clear hK109
              refine W.ret (ret_seq ?_)
              obtain rfl := some_inj hm
              have hs119 := St.tk0 hs114
              refine ret_of (.tuple #[(.int .i64 0), (.agg #[(.int .i64 0), (.int .u64 0), (.int .u64 0), (.string ByteArray.empty)]), (.int .i64 r66.2.2.2.2.2)]) (resS_of (by kernel_rfl) (resD_three rfl (.tmp (by kernel_rfl)) (.agg (ad := ⟨b4, 0, none⟩) (cs := [(.int .i64 0), (.int .u64 0), (.int .u64 0), (.string ByteArray.empty)]) (by kernel_rfl) (by kernel_rfl) (cells_sub (hs114.heapAt 0 rfl) rfl)) (.tmp (by kernel_rfl)))) ⟨_, ⟨rfl, rfl⟩, hs119⟩
      ·
        have h37p : ¬ (r24.2.2.2 = 0) := of_decide_eq_false (bnot_true h37)
        replace hm := ite_no hm h37p
        refine W.seq fun K120 hK120 => ?_
        have hs121 := hs34.drew
        refine W.regionD [(0, 0), (0, 0), (0, 0), (5, 1), (15, 2)] (fun w_ => St B w [] w_ [blk b31 (.cells [(.bool r24.1), (.int .u64 r24.2.1), (.int .u64 r24.2.2.1)].toArray 73 (0, 0)), blk b4 (.cells [(.int .i64 0), (.int .u64 0), (.int .u64 0), (.string ByteArray.empty)].toArray 46 (0, 0)), blk b8 (.cells [(.int .i64 0), (.int .u64 0), (.int .u64 0), (.string ByteArray.empty)].toArray 46 (0, 0))]) (by kernel_rfl) hs121 ?_
        refine any_R 0 (by kernel_rfl) (fun _ hS_ => runs_loadAgg (ad := ⟨b8, 0, none⟩) (cs := [(.int .i64 0), (.int .u64 0), (.int .u64 0), (.string ByteArray.empty)]) (by kernel_rfl) (cells_sub (hS_.heapAt 2 rfl) rfl)) hs121 ?_
        refine any_val (v := (.int .i64 r24.2.2.2)) (v' := (.int .i64 r24.2.2.2)) 1 (by kernel_rfl) (fun _ => by kernel_rfl) rfl hs121 ?_
        refine any_val (v := (.int .i64 0)) (v' := (.int .i64 0)) 2 (by kernel_rfl) (fun _ => by kernel_rfl) rfl hs121 ?_
        refine any_step 3 (by kernel_rfl) (by kernel_rfl) ?_
        have hs124 := St.f1 hs121
        refine ops_store (off := 0) (cs := [(.int .i64 0), (.int .u64 0), (.int .u64 0), (.string ByteArray.empty)]) (vs := [(.int .i64 0), (.int .u64 0), (.int .u64 0), (.string ByteArray.empty)]) hs124 (by kernel_rfl) (by simp) rfl (fun w122 hs123 => ?_)
        have hs125 : St B w [] w122 [blk b4 (.cells [(.int .i64 0), (.int .u64 0), (.int .u64 0), (.string ByteArray.empty)].toArray 46 (0, 0)), blk b31 (.cells [(.bool r24.1), (.int .u64 r24.2.1), (.int .u64 r24.2.2.1)].toArray 73 (0, 0)), blk b8 (.cells [(.int .i64 0), (.int .u64 0), (.int .u64 0), (.string ByteArray.empty)].toArray 46 (0, 0))] := hs123
        have hs126 := St.f2 hs125
        have hs127 := St.f1 hs126
        have hs128 := St.f2 hs127
        refine ops_done (by kernel_rfl) ⟨hs128, ?_⟩
        refine any_val (v := (.int .i64 r24.2.2.2)) (v' := (.int .i64 r24.2.2.2)) 4 (by kernel_rfl) (fun _ => by kernel_rfl) rfl hs128 ?_
        refine any_done (by kernel_rfl) ?_
        refine hK120 _ _ ?_
        clear hK120
        refine W.ret (ret_seq ?_)
        obtain rfl := some_inj hm
        have hs129 := St.tk0 hs125
        refine ret_of (.tuple #[(.int .i64 0), (.agg #[(.int .i64 0), (.int .u64 0), (.int .u64 0), (.string ByteArray.empty)]), (.int .i64 r24.2.2.2)]) (resS_of (by kernel_rfl) (resD_three rfl (.tmp (by kernel_rfl)) (.agg (ad := ⟨b4, 0, none⟩) (cs := [(.int .i64 0), (.int .u64 0), (.int .u64 0), (.string ByteArray.empty)]) (by kernel_rfl) (by kernel_rfl) (cells_sub (hs125.heapAt 0 rfl) rfl)) (.tmp (by kernel_rfl)))) ⟨_, ⟨rfl, rfl⟩, hs129⟩
  ·
    refine W.region ?_
    refine ops_run 3 (by kernel_rfl) ?_
    rcases Bool.eq_false_or_eq_true (decide (q_ < 1)) with h130 | h130
    ·
      have h130p : q_ < 1 := of_decide_eq_true h130
      replace hm := ite_yes hm h130p
      refine ops_set 19 (v := .bool true) (eq_bool_of (by kernel_rfl) h130) ?_
      refine ops_set 18 (v := .bool true) (eq_bool_of (by kernel_rfl) h130) ?_
      refine ops_run 3 (by kernel_rfl) ?_
      refine ops_done (by kernel_rfl) ?_
      have hs131 := St.f1 hs11
      exact ⟨true, slots_intro _ (by kernel_rfl), hs131, hm⟩
    ·
      have h130p : ¬ (q_ < 1) := of_decide_eq_false h130
      replace hm := ite_no hm h130p
      refine ops_set 19 (v := .bool false) (eq_bool_of (by kernel_rfl) h130) ?_
      refine ops_set 18 (v := .bool false) (eq_bool_of (by kernel_rfl) h130) ?_
      refine ops_run 3 (by kernel_rfl) ?_
      refine ops_done (by kernel_rfl) ?_
      have hs132 := St.f1 hs11
      exact ⟨(decide (q_ > 1099511627776)), slots_intro _ (by kernel_rfl), hs132, hm⟩

def rack_J1 (img : List Int) (l : List (Int × Int)) (i_ : Int) (r7 : Bool × Int × Int × Int) (p21 : Int) : Option (Int × Int × List (Int × Int)) :=
  (rput10_M img l i_ r7.1 r7.2.1 p21).bind fun r25 =>
if r25.1 = 0 then (some (p21, 0, r25.2)) else (some (0, r25.1, r25.2))

def rack_B0 (img : List Int) (l : List (Int × Int)) (i_ : Int) (q_ : Int) (r7 : Bool × Int × Int × Int) (k38 : Int → Option (Int × Int × List (Int × Int))) (p37 : Int) : Option (Int × Int × List (Int × Int)) :=
  if p37 < q_ then (need (-9223372036854775808 ≤ (((p37 + 1) % 18446744073709551616).tmod 4) ∧ (((p37 + 1) % 18446744073709551616).tmod 4) ≤ 9223372036854775807) <|
(rload_M img l i_ (((p37 + 1) % 18446744073709551616).tmod 4)).bind fun r48 =>
if r48.2.2.2.2.2 = 0 then (if r48.1 = ((p37 + 1) % 18446744073709551616) then (k38 ((p37 + 1) % 18446744073709551616)) else (rack_J1 img l i_ r7 p37)) else (some (0, r48.2.2.2.2.2, l))) else (rack_J1 img l i_ r7 p37)

def rack_M (img : List Int) (l : List (Int × Int)) (i_ : Int) (g_ : Int) (q_ : Int) : Option (Int × Int × List (Int × Int)) :=
  if q_ > 1099511627776 then (some (0, 1, l)) else ((ropened_M img l i_ g_).bind fun r7 =>
if r7.2.2.2 = 0 then (iter (fun k_ s_ => rack_B0 img l i_ q_ r7 k_ s_) FUEL r7.2.2.1) else (some (0, r7.2.2.2, l)))

set_option maxRecDepth 20000 in
set_option maxHeartbeats 2000000 in
set_option linter.unusedVariables false in
theorem rack_walk {img : List Int} {l : List (Int × Int)} {i_ : Int} {g_ : Int} {q_ : Int} {vb : Nat} {r : Int × Int × List (Int × Int)} (B : Nat) (w : World) (hm : rack_M img l i_ g_ q_ = some r) : Spec Tryd.prog 69 #[(.pointer (some ⟨vb, 0, none⟩)), (.int .i64 i_), (.int .u64 g_), (.int .u64 q_)] B w [refA (ptr vb) img l] (fun v H' => v = (.tuple #[(.int .u64 r.1), (.int .i64 r.2.1)]) ∧ H' = [refA (ptr vb) img r.2.2]) := by
  refine spec_W Tryd.func69 rfl fun l0 hs => ?_
  unfold rack_M at hm
  refine W.seq fun K1 hK1 => ?_
  refine W.region ?_
  refine ops_run 2 (by kernel_rfl) ?_
  refine ops_done (by kernel_rfl) ?_
  refine hK1 _ _ ?_
  clear hK1
  refine W.seq fun K2 hK2 => ?_
  refine W.seq fun K3 hK3 => ?_
  refine W.region ?_
  refine ops_run 2 (by kernel_rfl) ?_
  refine ops_done (by kernel_rfl) ?_
  refine hK3 _ _ ?_
  clear hK3
  refine W.cond (decide (q_ > 1099511627776)) (by kernel_rfl) (fun h4 => ?_) (fun h4 => ?_)
  ·
    have h4p : q_ > 1099511627776 := of_decide_eq_true h4
    replace hm := ite_yes hm h4p
    refine W.seq fun K5 hK5 => ?_
    refine W.region ?_
    refine ops_run 2 (by kernel_rfl) ?_
    refine ops_done (by kernel_rfl) ?_
    refine hK5 _ _ ?_
    clear hK5
    refine W.ret (ret_seq ?_)
    obtain rfl := some_inj hm
    refine ret_of (.tuple #[(.int .u64 0), (.int .i64 1)]) (by kernel_rfl) ⟨_, ⟨rfl, rfl⟩, hs⟩
  ·
    have h4p : ¬ (q_ > 1099511627776) := of_decide_eq_false h4
    replace hm := ite_no hm h4p
    refine W.skip ?_
    refine hK2 _ _ ?_
    clear hK2
    refine W.seq fun K6 hK6 => ?_
    refine W.region ?_
    refine ops_run 3 (by kernel_rfl) ?_
    obtain ⟨r7, h8, hm⟩ := bind_some hm
    refine ops_call0 hs (by kernel_rfl) (ropened_walk (i_ := i_) (g_ := g_) (img := img) (l := l) (hv := (hs.entAt 0 rfl refA_at)) (hm := h8) B _) ?_
    rintro _ _ w9 ⟨rfl, rfl⟩ hs10
    have hs11 := St.ap0 hs10
    refine ops_run 3 (by kernel_rfl) ?_
    refine ops_new (fun b => .pointer (some ⟨b, 0, none⟩)) (.cells [(.bool false), (.int .u64 0), (.int .u64 0)].toArray 73 (0, 0)) hs11 (by kernel_rfl) (fun b14 w12 hs13 => ?_)
    refine ops_store (off := 0) (cs := [(.bool false), (.int .u64 0), (.int .u64 0)]) (vs := [(.bool r7.1), (.int .u64 r7.2.1), (.int .u64 r7.2.2.1)]) hs13 (by kernel_rfl) (by simp) rfl (fun w15 hs16 => ?_)
    have hs17 : St B w l0 w15 [blk b14 (.cells [(.bool r7.1), (.int .u64 r7.2.1), (.int .u64 r7.2.2.1)].toArray 73 (0, 0)), refA (ptr vb) img l] := hs16
    refine ops_run 1 (by kernel_rfl) ?_
    refine ops_done (by kernel_rfl) ?_
    refine hK6 _ _ ?_
    clear hK6
    refine W.seq fun K18 hK18 => ?_
    refine W.seq fun K19 hK19 => ?_
    refine W.region ?_
    refine ops_run 2 (by kernel_rfl) ?_
    refine ops_done (by kernel_rfl) ?_
    refine hK19 _ _ ?_
    clear hK19
    refine W.cond (!decide (r7.2.2.2 = 0)) (by kernel_rfl) (fun h20 => ?_) (fun h20 => ?_)
    rotate_left
    ·
      have h20p : r7.2.2.2 = 0 := of_decide_eq_true (bnot_false h20)
      replace hm := ite_yes hm h20p
      refine W.skip ?_
      refine hK18 _ _ ?_
      clear hK18
      refine W.seq_join (fun s_ w_ => ∃ (p21 : Int), (∃ us, s_ = slots 64 [(0, (.pointer (some ⟨vb, 0, none⟩))), (1, (.int .i64 i_)), (10, (.pointer (some ⟨b14, 0, none⟩)))] us) ∧ St B w l0 w_ [refA (ptr vb) img l, blk b14 (.cells [(.bool r7.1), (.int .u64 r7.2.1), (.int .u64 p21)].toArray 73 (0, 0))] ∧ rack_J1 img l i_ r7 p21 = some r) ?_ ?_
      ·
        rintro _ w22 ⟨p21, ⟨us, rfl⟩, hs23, hm⟩
        unfold rack_J1 at hm
        refine W.seq fun K24 hK24 => ?_
        refine W.region ?_
        refine ops_run 2 (by kernel_rfl) ?_
        refine ops_R (runs_loadAgg (ad := ⟨b14, 0, none⟩) (cs := [(.bool r7.1), (.int .u64 r7.2.1), (.int .u64 p21)]) (by kernel_rfl) (cells_sub (hs23.heapAt 1 rfl) rfl)) ?_
        obtain ⟨r25, h26, hm⟩ := bind_some hm
        refine ops_call1 hs23 (by kernel_rfl) (rput10_walk (vb := vb) (i_ := i_) (ho_ := r7.1) (hg_ := r7.2.1) (hk_ := p21) (img := img) (l := l) (hm := h26) B _) ?_
        rintro _ _ w27 ⟨rfl, rfl⟩ hs28
        have hs29 := St.ap1 hs28
        refine ops_run 1 (by kernel_rfl) ?_
        refine ops_done (by kernel_rfl) ?_
        refine hK24 _ _ ?_
        clear hK24
        refine W.seq fun K30 hK30 => ?_
        refine W.seq fun K31 hK31 => ?_
        refine W.region ?_
        refine ops_run 2 (by kernel_rfl) ?_
        refine ops_done (by kernel_rfl) ?_
        refine hK31 _ _ ?_
        clear hK31
        refine W.cond (!decide (r25.1 = 0)) (by kernel_rfl) (fun h32 => ?_) (fun h32 => ?_)
        rotate_left
        ·
          have h32p : r25.1 = 0 := of_decide_eq_true (bnot_false h32)
          replace hm := ite_yes hm h32p
          refine W.skip ?_
          refine hK30 _ _ ?_
          clear hK30
          refine W.seq fun K33 hK33 => ?_
          refine W.region ?_
          refine ops_run 1 (by kernel_rfl) ?_
          refine ops_R (runs_load (ad := ⟨b14, 2, none⟩) (v := (.int .u64 p21)) (by kernel_rfl) (hs29.cellAt 1 rfl rfl)) ?_
          refine ops_run 2 (by kernel_rfl) ?_
          refine ops_done (by kernel_rfl) ?_
          refine hK33 _ _ ?_
          clear hK33
          refine W.ret ?_
          obtain rfl := some_inj hm
          have hs34 := St.tk1 hs29
          refine ret_of (.tuple #[(.int .u64 p21), (.int .i64 0)]) (by kernel_rfl) ⟨_, ⟨rfl, rfl⟩, hs34⟩
        ·
          have h32p : ¬ (r25.1 = 0) := of_decide_eq_false (bnot_true h32)
          replace hm := ite_no hm h32p
          refine W.seq fun K35 hK35 => ?_
          refine W.region ?_
          refine ops_run 3 (by kernel_rfl) ?_
          refine ops_done (by kernel_rfl) ?_
          refine hK35 _ _ ?_
          clear hK35
          refine W.ret (ret_seq ?_)
          obtain rfl := some_inj hm
          have hs36 := St.tk1 hs29
          refine ret_of (.tuple #[(.int .u64 0), (.int .i64 r25.1)]) (by kernel_rfl) ⟨_, ⟨rfl, rfl⟩, hs36⟩
      ·
        refine W.block ?_
        have hs42 := St.f1 hs17
        refine W.loop_iter (G := Int) (σ := Int) (fun | p37 => p37) (fun | p37, s_, w_ => (∃ us, s_ = slots 64 [(0, (.pointer (some ⟨vb, 0, none⟩))), (1, (.int .i64 i_)), (3, (.int .u64 q_)), (10, (.pointer (some ⟨b14, 0, none⟩)))] us) ∧ St B w l0 w_ [refA (ptr vb) img l, blk b14 (.cells [(.bool r7.1), (.int .u64 r7.2.1), (.int .u64 p37)].toArray 73 (0, 0))]) r7.2.2.1 ⟨slots_intro _ (by kernel_rfl), hs42⟩ hm ?_
        rintro k38 ih39 p37 _ w40 ⟨⟨us, rfl⟩, hs41⟩ hm
        replace hm : rack_B0 img l i_ q_ r7 k38 p37 = some r := hm
        unfold rack_B0 at hm
        refine W.seq fun K43 hK43 => ?_
        refine W.seq fun K44 hK44 => ?_
        refine W.region ?_
        refine ops_run 1 (by kernel_rfl) ?_
        refine ops_R (runs_load (ad := ⟨b14, 2, none⟩) (v := (.int .u64 p37)) (by kernel_rfl) (hs41.cellAt 1 rfl rfl)) ?_
        refine ops_run 2 (by kernel_rfl) ?_
        refine ops_done (by kernel_rfl) ?_
        refine hK44 _ _ ?_
        clear hK44
        refine W.cond (decide (p37 < q_)) (by kernel_rfl) (fun h45 => ?_) (fun h45 => ?_)
        ·
          have h45p : p37 < q_ := of_decide_eq_true h45
          replace hm := ite_yes hm h45p
          refine W.skip ?_
          refine hK43 _ _ ?_
          clear hK43
          refine W.block ?_
          refine W.seq fun K46 hK46 => ?_
          refine W.region ?_
          refine ops_run 3 (by kernel_rfl) ?_
          refine ops_R (runs_load (ad := ⟨b14, 2, none⟩) (v := (.int .u64 p37)) (by kernel_rfl) (hs41.cellAt 1 rfl rfl)) ?_
          refine ops_val (v := .int .u64 (IntKind.u64.wrap (p37 + 1))) (v' := .int .u64 ((p37 + 1) % 18446744073709551616)) (by kernel_rfl) (congrArg (Value.int .u64) (wrap_u64_mod _)) ?_
          refine ops_run 1 (by kernel_rfl) ?_
          obtain ⟨h47, hm⟩ := need_some hm
          refine ops_val (v := .int .i64 (IntKind.i64.wrap (((p37 + 1) % 18446744073709551616).tmod 4))) (v' := .int .i64 (((p37 + 1) % 18446744073709551616).tmod 4)) (by kernel_rfl) (congrArg (Value.int .i64) (wrap_i64 h47.1 h47.2)) ?_
          obtain ⟨r48, h49, hm⟩ := bind_some hm
          refine ops_call0 hs41 (by kernel_rfl) (rload_walk (i_ := i_) (k_ := ((p37 + 1) % 18446744073709551616).tmod 4) (img := img) (l := l) (hv := (hs41.entAt 0 rfl refA_at)) (hm := h49) B _) ?_
          rintro _ _ w50 ⟨rfl, rfl⟩ hs51
          have hs52 := St.ap0 hs51
          refine ops_run 4 (by kernel_rfl) ?_
          refine ops_new (fun b => .pointer (some ⟨b, 0, none⟩)) (.cells [(.int .i64 0), (.int .u64 0), (.int .u64 0), (.string ByteArray.empty)].toArray 46 (0, 0)) hs52 (by kernel_rfl) (fun b55 w53 hs54 => ?_)
          refine ops_run 1 (by kernel_rfl) ?_
          refine ops_store (off := 0) (cs := [(.int .i64 0), (.int .u64 0), (.int .u64 0), (.string ByteArray.empty)]) (vs := [(.int .i64 r48.2.1), (.int .u64 r48.2.2.1), (.int .u64 r48.2.2.2.1), (.string r48.2.2.2.2.1)]) hs54 (by kernel_rfl) (by simp) rfl (fun w56 hs57 => ?_)
          have hs58 : St B w l0 w56 [blk b55 (.cells [(.int .i64 r48.2.1), (.int .u64 r48.2.2.1), (.int .u64 r48.2.2.2.1), (.string r48.2.2.2.2.1)].toArray 46 (0, 0)), refA (ptr vb) img l, blk b14 (.cells [(.bool r7.1), (.int .u64 r7.2.1), (.int .u64 p37)].toArray 73 (0, 0))] := hs57
          refine ops_run 1 (by kernel_rfl) ?_
          refine ops_done (by kernel_rfl) ?_
          refine hK46 _ _ ?_
          clear hK46
          refine W.seq fun K59 hK59 => ?_
          refine W.seq fun K60 hK60 => ?_
          refine W.region ?_
          refine ops_run 2 (by kernel_rfl) ?_
          refine ops_done (by kernel_rfl) ?_
          refine hK60 _ _ ?_
          clear hK60
          refine W.cond (!decide (r48.2.2.2.2.2 = 0)) (by kernel_rfl) (fun h61 => ?_) (fun h61 => ?_)
          rotate_left
          ·
            have h61p : r48.2.2.2.2.2 = 0 := of_decide_eq_true (bnot_false h61)
            replace hm := ite_yes hm h61p
            refine W.skip ?_
            refine hK59 _ _ ?_
            clear hK59
            refine W.seq fun K62 hK62 => ?_
            refine W.seq fun K63 hK63 => ?_
            refine W.region ?_
            refine ops_run 2 (by kernel_rfl) ?_
            refine ops_R (runs_load (ad := ⟨b14, 2, none⟩) (v := (.int .u64 p37)) (by kernel_rfl) (hs58.cellAt 2 rfl rfl)) ?_
            refine ops_val (v := .int .u64 (IntKind.u64.wrap (p37 + 1))) (v' := .int .u64 ((p37 + 1) % 18446744073709551616)) (by kernel_rfl) (congrArg (Value.int .u64) (wrap_u64_mod _)) ?_
            refine ops_run 1 (by kernel_rfl) ?_
            refine ops_done (by kernel_rfl) ?_
            refine hK63 _ _ ?_
            clear hK63
            refine W.cond (!decide (r48.1 = ((p37 + 1) % 18446744073709551616))) (by kernel_rfl) (fun h64 => ?_) (fun h64 => ?_)
            rotate_left
            ·
              have h64p : r48.1 = ((p37 + 1) % 18446744073709551616) := of_decide_eq_true (bnot_false h64)
              replace hm := ite_yes hm h64p
              refine W.skip ?_
              refine hK62 _ _ ?_
              clear hK62
              refine W.region ?_
              refine ops_run 1 (by kernel_rfl) ?_
              refine ops_R (runs_load (ad := ⟨b14, 2, none⟩) (v := (.int .u64 p37)) (by kernel_rfl) (hs58.cellAt 2 rfl rfl)) ?_
              refine ops_val (v := .int .u64 (IntKind.u64.wrap (p37 + 1))) (v' := .int .u64 ((p37 + 1) % 18446744073709551616)) (by kernel_rfl) (congrArg (Value.int .u64) (wrap_u64_mod _)) ?_
              refine ops_run 1 (by kernel_rfl) ?_
              have hs67 := St.f2 hs58
              refine ops_store (off := 2) (cs := [(.bool r7.1), (.int .u64 r7.2.1), (.int .u64 p37)]) (vs := [(.int .u64 ((p37 + 1) % 18446744073709551616))]) hs67 (by kernel_rfl) (by simp) rfl (fun w65 hs66 => ?_)
              have hs68 : St B w l0 w65 [blk b14 (.cells [(.bool r7.1), (.int .u64 r7.2.1), (.int .u64 ((p37 + 1) % 18446744073709551616))].toArray 73 (0, 0)), blk b55 (.cells [(.int .i64 r48.2.1), (.int .u64 r48.2.2.1), (.int .u64 r48.2.2.2.1), (.string r48.2.2.2.2.1)].toArray 46 (0, 0)), refA (ptr vb) img l] := hs66
              refine ops_done (by kernel_rfl) ?_
              refine normal_block ?_
              have hs69 := St.f2 hs68
              have hs70 := St.tk2 hs69
              refine loopAt_next ?_
              exact ih39 ((p37 + 1) % 18446744073709551616) _ _ ⟨slots_intro _ (by kernel_rfl), hs70⟩ hm
            ·
              have h64p : ¬ (r48.1 = ((p37 + 1) % 18446744073709551616)) := of_decide_eq_false (bnot_true h64)
              replace hm := ite_no hm h64p
              refine W.exit (exit_seq (exit_block (by decide) (exit_seq (exit_here ?_))))
              have hs71 := St.f2 hs58
              have hs72 := St.f2 hs71
              have hs73 := St.tk2 hs72
              exact ⟨p37, slots_intro _ (by kernel_rfl), hs73, hm⟩
          ·
            have h61p : ¬ (r48.2.2.2.2.2 = 0) := of_decide_eq_false (bnot_true h61)
            replace hm := ite_no hm h61p
            refine W.seq fun K74 hK74 => ?_
            refine W.region ?_
            refine ops_run 3 (by kernel_rfl) ?_
            refine ops_done (by kernel_rfl) ?_
            refine hK74 _ _ ?_
            clear hK74
            refine W.ret (ret_seq (ret_block (ret_seq (ret_block (ret_seq ?_)))))
            obtain rfl := some_inj hm
            have hs75 := St.f1 hs58
            have hs76 := St.tk1 hs75
            refine ret_of (.tuple #[(.int .u64 0), (.int .i64 r48.2.2.2.2.2)]) (by kernel_rfl) ⟨_, ⟨rfl, rfl⟩, hs76⟩
        ·
          have h45p : ¬ (p37 < q_) := of_decide_eq_false h45
          replace hm := ite_no hm h45p
          refine W.exit (exit_seq (exit_seq (exit_here ?_)))
          exact ⟨p37, slots_intro _ (by kernel_rfl), hs41, hm⟩
    ·
      have h20p : ¬ (r7.2.2.2 = 0) := of_decide_eq_false (bnot_true h20)
      replace hm := ite_no hm h20p
      refine W.seq fun K77 hK77 => ?_
      refine W.region ?_
      refine ops_run 3 (by kernel_rfl) ?_
      refine ops_done (by kernel_rfl) ?_
      refine hK77 _ _ ?_
      clear hK77
      refine W.ret (ret_seq ?_)
      obtain rfl := some_inj hm
      have hs78 := St.f1 hs17
      have hs79 := St.tk1 hs78
      refine ret_of (.tuple #[(.int .u64 0), (.int .i64 r7.2.2.2)]) (by kernel_rfl) ⟨_, ⟨rfl, rfl⟩, hs79⟩

def ropen_J1 (img : List Int) (l : List (Int × Int)) (i_ : Int) (g_ : Int) (r9 : Bool × Int × Int × Int) : Option (Int × Int × List (Int × Int)) :=
  if g_ ≤ r9.2.1 then (some (2, 0, l)) else (if r9.1 = true then (some (3, 0, l)) else (if ((g_ - r9.2.1) % 18446744073709551616) = 1 then ((rput10_M img l i_ true g_ 0).bind fun r37 =>
if r37.1 = 0 then ((rwipe10_M img r37.2 i_).bind fun r46 =>
some (0, r46.1, r46.2)) else (some (0, r37.1, r37.2))) else (some (3, 0, l))))

def ropen_M (img : List Int) (l : List (Int × Int)) (i_ : Int) (g_ : Int) : Option (Int × Int × List (Int × Int)) :=
  if g_ < 1 then (some (0, 1, l)) else (if g_ > 1099511627776 then (some (0, 1, l)) else ((rget10_M img l i_).bind fun r9 =>
if r9.2.2.2 = 0 then (if r9.1 = true then (if g_ = r9.2.1 then (some (1, 0, l)) else (ropen_J1 img l i_ g_ r9)) else (ropen_J1 img l i_ g_ r9)) else (some (0, r9.2.2.2, l))))

set_option maxRecDepth 20000 in
set_option maxHeartbeats 2000000 in
set_option linter.unusedVariables false in
theorem ropen_walk {img : List Int} {l : List (Int × Int)} {i_ : Int} {g_ : Int} {vb : Nat} {r : Int × Int × List (Int × Int)} (B : Nat) (w : World) (hm : ropen_M img l i_ g_ = some r) : Spec Tryd.prog 71 #[(.pointer (some ⟨vb, 0, none⟩)), (.int .i64 i_), (.int .u64 g_)] B w [refA (ptr vb) img l] (fun v H' => v = (.tuple #[(.int .i64 r.1), (.int .i64 r.2.1)]) ∧ H' = [refA (ptr vb) img r.2.2]) := by
  refine spec_W Tryd.func71 rfl fun l0 hs => ?_
  unfold ropen_M at hm
  refine W.seq fun K1 hK1 => ?_
  refine W.region ?_
  refine ops_run 2 (by kernel_rfl) ?_
  refine ops_done (by kernel_rfl) ?_
  refine hK1 _ _ ?_
  clear hK1
  refine W.seq fun K2 hK2 => ?_
  refine W.seq fun K3 hK3 => ?_
  refine W.region ?_
  refine ops_run 3 (by kernel_rfl) ?_
  rcases Bool.eq_false_or_eq_true (decide (g_ < 1)) with h4 | h4
  ·
    have h4p : g_ < 1 := of_decide_eq_true h4
    replace hm := ite_yes hm h4p
    refine ops_set 12 (v := .bool true) (eq_bool_of (by kernel_rfl) h4) ?_
    refine ops_set 11 (v := .bool true) (eq_bool_of (by kernel_rfl) h4) ?_
    refine ops_run 3 (by kernel_rfl) ?_
    refine ops_done (by kernel_rfl) ?_
    refine hK3 _ _ ?_
    clear hK3
    refine W.cond_true true (by kernel_rfl) rfl ?_
    refine W.seq fun K5 hK5 => ?_
    refine W.region ?_
    refine ops_run 2 (by kernel_rfl) ?_
    refine ops_done (by kernel_rfl) ?_
    refine hK5 _ _ ?_
    clear hK5
    refine W.ret (ret_seq ?_)
    obtain rfl := some_inj hm
    refine ret_of (.tuple #[(.int .i64 0), (.int .i64 1)]) (by kernel_rfl) ⟨_, ⟨rfl, rfl⟩, hs⟩
  ·
    have h4p : ¬ (g_ < 1) := of_decide_eq_false h4
    replace hm := ite_no hm h4p
    refine ops_set 12 (v := .bool false) (eq_bool_of (by kernel_rfl) h4) ?_
    refine ops_set 11 (v := .bool false) (eq_bool_of (by kernel_rfl) h4) ?_
    refine ops_run 3 (by kernel_rfl) ?_
    refine ops_done (by kernel_rfl) ?_
    refine hK3 _ _ ?_
    clear hK3
    refine W.cond (decide (g_ > 1099511627776)) (by kernel_rfl) (fun h6 => ?_) (fun h6 => ?_)
    ·
      have h6p : g_ > 1099511627776 := of_decide_eq_true h6
      replace hm := ite_yes hm h6p
      refine W.seq fun K7 hK7 => ?_
      refine W.region ?_
      refine ops_run 2 (by kernel_rfl) ?_
      refine ops_done (by kernel_rfl) ?_
      refine hK7 _ _ ?_
      clear hK7
      refine W.ret (ret_seq ?_)
      obtain rfl := some_inj hm
      refine ret_of (.tuple #[(.int .i64 0), (.int .i64 1)]) (by kernel_rfl) ⟨_, ⟨rfl, rfl⟩, hs⟩
    ·
      have h6p : ¬ (g_ > 1099511627776) := of_decide_eq_false h6
      replace hm := ite_no hm h6p
      refine W.skip ?_
      refine hK2 _ _ ?_
      clear hK2
      refine W.seq fun K8 hK8 => ?_
      refine W.region ?_
      refine ops_run 2 (by kernel_rfl) ?_
      obtain ⟨r9, h10, hm⟩ := bind_some hm
      refine ops_call0 hs (by kernel_rfl) (rget10_walk (i_ := i_) (img := img) (l := l) (hv := (hs.entAt 0 rfl refA_at)) (hm := h10) B _) ?_
      rintro _ _ w11 ⟨rfl, rfl⟩ hs12
      have hs13 := St.ap0 hs12
      refine ops_run 3 (by kernel_rfl) ?_
      refine ops_new (fun b => .pointer (some ⟨b, 0, none⟩)) (.cells [(.bool false), (.int .u64 0), (.int .u64 0)].toArray 73 (0, 0)) hs13 (by kernel_rfl) (fun b16 w14 hs15 => ?_)
      refine ops_store (off := 0) (cs := [(.bool false), (.int .u64 0), (.int .u64 0)]) (vs := [(.bool r9.1), (.int .u64 r9.2.1), (.int .u64 r9.2.2.1)]) hs15 (by kernel_rfl) (by simp) rfl (fun w17 hs18 => ?_)
      have hs19 : St B w l0 w17 [blk b16 (.cells [(.bool r9.1), (.int .u64 r9.2.1), (.int .u64 r9.2.2.1)].toArray 73 (0, 0)), refA (ptr vb) img l] := hs18
      refine ops_run 1 (by kernel_rfl) ?_
      refine ops_done (by kernel_rfl) ?_
      refine hK8 _ _ ?_
      clear hK8
      refine W.seq fun K20 hK20 => ?_
      refine W.seq fun K21 hK21 => ?_
      refine W.region ?_
      refine ops_run 2 (by kernel_rfl) ?_
      refine ops_done (by kernel_rfl) ?_
      refine hK21 _ _ ?_
      clear hK21
      refine W.cond (!decide (r9.2.2.2 = 0)) (by kernel_rfl) (fun h22 => ?_) (fun h22 => ?_)
      rotate_left
      ·
        have h22p : r9.2.2.2 = 0 := of_decide_eq_true (bnot_false h22)
        replace hm := ite_yes hm h22p
        refine W.skip ?_
        refine hK20 _ _ ?_
        clear hK20
        refine W.seq_join (fun s_ w_ => (∃ us, s_ = slots 57 [(0, (.pointer (some ⟨vb, 0, none⟩))), (1, (.int .i64 i_)), (2, (.int .u64 g_)), (8, (.pointer (some ⟨b16, 0, none⟩)))] us) ∧ St B w l0 w_ [refA (ptr vb) img l, blk b16 (.cells [(.bool r9.1), (.int .u64 r9.2.1), (.int .u64 r9.2.2.1)].toArray 73 (0, 0))] ∧ ropen_J1 img l i_ g_ r9 = some r) ?_ ?_
        ·
          rintro _ w23 ⟨⟨us, rfl⟩, hs24, hm⟩
          unfold ropen_J1 at hm
          refine W.seq fun K25 hK25 => ?_
          refine W.seq fun K26 hK26 => ?_
          refine W.region ?_
          refine ops_run 2 (by kernel_rfl) ?_
          refine ops_R (runs_load (ad := ⟨b16, 1, none⟩) (v := (.int .u64 r9.2.1)) (by kernel_rfl) (hs24.cellAt 1 rfl rfl)) ?_
          refine ops_run 1 (by kernel_rfl) ?_
          refine ops_done (by kernel_rfl) ?_
          refine hK26 _ _ ?_
          clear hK26
          refine W.cond (decide (g_ ≤ r9.2.1)) (by kernel_rfl) (fun h27 => ?_) (fun h27 => ?_)
          ·
            have h27p : g_ ≤ r9.2.1 := of_decide_eq_true h27
            replace hm := ite_yes hm h27p
            refine W.seq fun K28 hK28 => ?_
            refine W.region ?_
            refine ops_run 2 (by kernel_rfl) ?_
            refine ops_done (by kernel_rfl) ?_
            refine hK28 _ _ ?_
            clear hK28
            refine W.ret (ret_seq ?_)
            obtain rfl := some_inj hm
            have hs29 := St.tk1 hs24
            refine ret_of (.tuple #[(.int .i64 2), (.int .i64 0)]) (by kernel_rfl) ⟨_, ⟨rfl, rfl⟩, hs29⟩
          ·
            have h27p : ¬ (g_ ≤ r9.2.1) := of_decide_eq_false h27
            replace hm := ite_no hm h27p
            refine W.skip ?_
            refine hK25 _ _ ?_
            clear hK25
            refine W.seq fun K30 hK30 => ?_
            refine W.seq fun K31 hK31 => ?_
            refine W.region ?_
            refine ops_run 1 (by kernel_rfl) ?_
            refine ops_R (runs_load (ad := ⟨b16, 0, none⟩) (v := (.bool r9.1)) (by kernel_rfl) (hs24.cellAt 1 rfl rfl)) ?_
            refine ops_run 1 (by kernel_rfl) ?_
            rcases Bool.eq_false_or_eq_true r9.1 with h32 | h32
            ·
              have h32p : r9.1 = true := h32
              replace hm := ite_yes hm h32p
              refine ops_set 39 (v := .bool true) (eq_bool_of (by kernel_rfl) h32) ?_
              refine ops_set 38 (v := .bool true) (eq_bool_of (by kernel_rfl) h32) ?_
              refine ops_run 6 (by kernel_rfl) ?_
              refine ops_done (by kernel_rfl) ?_
              refine hK31 _ _ ?_
              clear hK31
              refine W.cond_true true (by kernel_rfl) rfl ?_
              refine W.seq fun K33 hK33 => ?_
              refine W.region ?_
              refine ops_run 2 (by kernel_rfl) ?_
              refine ops_done (by kernel_rfl) ?_
              refine hK33 _ _ ?_
              clear hK33
              refine W.ret (ret_seq ?_)
              obtain rfl := some_inj hm
              have hs34 := St.tk1 hs24
              refine ret_of (.tuple #[(.int .i64 3), (.int .i64 0)]) (by kernel_rfl) ⟨_, ⟨rfl, rfl⟩, hs34⟩
            ·
              have h32p : ¬ (r9.1 = true) := ne_true_of_eq_false h32
              replace hm := ite_no hm h32p
              refine ops_set 39 (v := .bool false) (eq_bool_of (by kernel_rfl) h32) ?_
              refine ops_set 38 (v := .bool false) (eq_bool_of (by kernel_rfl) h32) ?_
              refine ops_run 2 (by kernel_rfl) ?_
              refine ops_R (runs_load (ad := ⟨b16, 1, none⟩) (v := (.int .u64 r9.2.1)) (by kernel_rfl) (hs24.cellAt 1 rfl rfl)) ?_
              refine ops_val (v := .int .u64 (IntKind.u64.wrap (g_ - r9.2.1))) (v' := .int .u64 ((g_ - r9.2.1) % 18446744073709551616)) (by kernel_rfl) (congrArg (Value.int .u64) (wrap_u64_mod _)) ?_
              refine ops_run 2 (by kernel_rfl) ?_
              refine ops_done (by kernel_rfl) ?_
              refine hK31 _ _ ?_
              clear hK31
              refine W.cond (!decide (((g_ - r9.2.1) % 18446744073709551616) = 1)) (by kernel_rfl) (fun h35 => ?_) (fun h35 => ?_)
              rotate_left
              ·
                have h35p : ((g_ - r9.2.1) % 18446744073709551616) = 1 := of_decide_eq_true (bnot_false h35)
                replace hm := ite_yes hm h35p
                refine W.skip ?_
                refine hK30 _ _ ?_
                clear hK30
                refine W.seq fun K36 hK36 => ?_
                refine W.region ?_
                refine ops_run 4 (by kernel_rfl) ?_
                obtain ⟨r37, h38, hm⟩ := bind_some hm
                refine ops_call1 hs24 (by kernel_rfl) (rput10_walk (vb := vb) (i_ := i_) (ho_ := true) (hg_ := g_) (hk_ := 0) (img := img) (l := l) (hm := h38) B _) ?_
                rintro _ _ w39 ⟨rfl, rfl⟩ hs40
                have hs41 := St.ap1 hs40
                refine ops_run 1 (by kernel_rfl) ?_
                refine ops_done (by kernel_rfl) ?_
                refine hK36 _ _ ?_
                clear hK36
                refine W.seq fun K42 hK42 => ?_
                refine W.seq fun K43 hK43 => ?_
                refine W.region ?_
                refine ops_run 2 (by kernel_rfl) ?_
                refine ops_done (by kernel_rfl) ?_
                refine hK43 _ _ ?_
                clear hK43
                refine W.cond (!decide (r37.1 = 0)) (by kernel_rfl) (fun h44 => ?_) (fun h44 => ?_)
                rotate_left
                ·
                  have h44p : r37.1 = 0 := of_decide_eq_true (bnot_false h44)
                  replace hm := ite_yes hm h44p
                  refine W.skip ?_
                  refine hK42 _ _ ?_
                  clear hK42
                  refine W.seq fun K45 hK45 => ?_
                  refine W.region ?_
                  refine ops_run 2 (by kernel_rfl) ?_
                  obtain ⟨r46, h47, hm⟩ := bind_some hm
                  refine ops_call1 hs41 (by kernel_rfl) (rwipe10_walk (vb := vb) (i_ := i_) (img := img) (l := r37.2) (hm := h47) B _) ?_
                  rintro _ _ w48 ⟨rfl, rfl⟩ hs49
                  have hs50 := St.ap1 hs49
                  refine ops_run 2 (by kernel_rfl) ?_
                  refine ops_done (by kernel_rfl) ?_
                  refine hK45 _ _ ?_
                  clear hK45
                  refine W.ret ?_
                  obtain rfl := some_inj hm
                  have hs51 := St.tk1 hs50
                  refine ret_of (.tuple #[(.int .i64 0), (.int .i64 r46.1)]) (by kernel_rfl) ⟨_, ⟨rfl, rfl⟩, hs51⟩
                ·
                  have h44p : ¬ (r37.1 = 0) := of_decide_eq_false (bnot_true h44)
                  replace hm := ite_no hm h44p
                  refine W.seq fun K52 hK52 => ?_
                  refine W.region ?_
                  refine ops_run 3 (by kernel_rfl) ?_
                  refine ops_done (by kernel_rfl) ?_
                  refine hK52 _ _ ?_
                  clear hK52
                  refine W.ret (ret_seq ?_)
                  obtain rfl := some_inj hm
                  have hs53 := St.tk1 hs41
                  refine ret_of (.tuple #[(.int .i64 0), (.int .i64 r37.1)]) (by kernel_rfl) ⟨_, ⟨rfl, rfl⟩, hs53⟩
              ·
                have h35p : ¬ (((g_ - r9.2.1) % 18446744073709551616) = 1) := of_decide_eq_false (bnot_true h35)
                replace hm := ite_no hm h35p
                refine W.seq fun K54 hK54 => ?_
                refine W.region ?_
                refine ops_run 2 (by kernel_rfl) ?_
                refine ops_done (by kernel_rfl) ?_
                refine hK54 _ _ ?_
                clear hK54
                refine W.ret (ret_seq ?_)
                obtain rfl := some_inj hm
                have hs55 := St.tk1 hs24
                refine ret_of (.tuple #[(.int .i64 3), (.int .i64 0)]) (by kernel_rfl) ⟨_, ⟨rfl, rfl⟩, hs55⟩
        ·
          refine W.seq fun K56 hK56 => ?_
          refine W.region ?_
          refine ops_run 1 (by kernel_rfl) ?_
          refine ops_R (runs_load (ad := ⟨b16, 0, none⟩) (v := (.bool r9.1)) (by kernel_rfl) (hs19.cellAt 0 rfl rfl)) ?_
          refine ops_run 1 (by kernel_rfl) ?_
          rcases Bool.eq_false_or_eq_true r9.1 with h57 | h57
          ·
            have h57p : r9.1 = true := h57
            replace hm := ite_yes hm h57p
            refine ops_set 27 (v := .bool true) (eq_bool_of (by kernel_rfl) h57) ?_
            refine ops_set 26 (v := .bool true) (eq_bool_of (by kernel_rfl) h57) ?_
            refine ops_run 2 (by kernel_rfl) ?_
            refine ops_R (runs_load (ad := ⟨b16, 1, none⟩) (v := (.int .u64 r9.2.1)) (by kernel_rfl) (hs19.cellAt 0 rfl rfl)) ?_
            refine ops_run 2 (by kernel_rfl) ?_
            refine ops_done (by kernel_rfl) ?_
            refine hK56 _ _ ?_
            clear hK56
            refine W.cond (decide (g_ = r9.2.1)) (by kernel_rfl) (fun h58 => ?_) (fun h58 => ?_)
            ·
              have h58p : g_ = r9.2.1 := of_decide_eq_true h58
              replace hm := ite_yes hm h58p
              refine W.seq fun K59 hK59 => ?_
              refine W.region ?_
              refine ops_run 2 (by kernel_rfl) ?_
              refine ops_done (by kernel_rfl) ?_
              refine hK59 _ _ ?_
              clear hK59
              refine W.ret (ret_seq ?_)
              obtain rfl := some_inj hm
              have hs60 := St.f1 hs19
              have hs61 := St.tk1 hs60
              refine ret_of (.tuple #[(.int .i64 1), (.int .i64 0)]) (by kernel_rfl) ⟨_, ⟨rfl, rfl⟩, hs61⟩
            ·
              have h58p : ¬ (g_ = r9.2.1) := of_decide_eq_false h58
              replace hm := ite_no hm h58p
              refine W.skip ?_
              have hs62 := St.f1 hs19
              exact ⟨slots_intro _ (by kernel_rfl), hs62, hm⟩
          ·
            have h57p : ¬ (r9.1 = true) := ne_true_of_eq_false h57
            replace hm := ite_no hm h57p
            refine ops_set 27 (v := .bool false) (eq_bool_of (by kernel_rfl) h57) ?_
            refine ops_set 26 (v := .bool false) (eq_bool_of (by kernel_rfl) h57) ?_
            refine ops_run 5 (by kernel_rfl) ?_
            refine ops_done (by kernel_rfl) ?_
            refine hK56 _ _ ?_
            clear hK56
            refine W.cond_false false (by kernel_rfl) rfl ?_
            refine W.skip ?_
            have hs63 := St.f1 hs19
            exact ⟨slots_intro _ (by kernel_rfl), hs63, hm⟩
      ·
        have h22p : ¬ (r9.2.2.2 = 0) := of_decide_eq_false (bnot_true h22)
        replace hm := ite_no hm h22p
        refine W.seq fun K64 hK64 => ?_
        refine W.region ?_
        refine ops_run 3 (by kernel_rfl) ?_
        refine ops_done (by kernel_rfl) ?_
        refine hK64 _ _ ?_
        clear hK64
        refine W.ret (ret_seq ?_)
        obtain rfl := some_inj hm
        have hs65 := St.f1 hs19
        have hs66 := St.tk1 hs65
        refine ret_of (.tuple #[(.int .i64 0), (.int .i64 r9.2.2.2)]) (by kernel_rfl) ⟨_, ⟨rfl, rfl⟩, hs66⟩

def rclose_M (img : List Int) (l : List (Int × Int)) (i_ : Int) (g_ : Int) : Option (Int × Int × List (Int × Int)) :=
  if g_ < 1 then (some (0, 1, l)) else (if g_ > 1099511627776 then (some (0, 1, l)) else ((rget10_M img l i_).bind fun r9 =>
if r9.2.2.2 = 0 then (if g_ < r9.2.1 then (some (2, 0, l)) else (if g_ > r9.2.1 then (some (3, 0, l)) else (if r9.1 = true then ((rput10_M img l i_ false r9.2.1 r9.2.2.1).bind fun r43 =>
some (0, r43.1, r43.2)) else (some (1, 0, l))))) else (some (0, r9.2.2.2, l))))

set_option maxRecDepth 20000 in
set_option maxHeartbeats 2000000 in
set_option linter.unusedVariables false in
theorem rclose_walk {img : List Int} {l : List (Int × Int)} {i_ : Int} {g_ : Int} {vb : Nat} {r : Int × Int × List (Int × Int)} (B : Nat) (w : World) (hm : rclose_M img l i_ g_ = some r) : Spec Tryd.prog 73 #[(.pointer (some ⟨vb, 0, none⟩)), (.int .i64 i_), (.int .u64 g_)] B w [refA (ptr vb) img l] (fun v H' => v = (.tuple #[(.int .i64 r.1), (.int .i64 r.2.1)]) ∧ H' = [refA (ptr vb) img r.2.2]) := by
  refine spec_W Tryd.func73 rfl fun l0 hs => ?_
  unfold rclose_M at hm
  refine W.seq fun K1 hK1 => ?_
  refine W.region ?_
  refine ops_run 2 (by kernel_rfl) ?_
  refine ops_done (by kernel_rfl) ?_
  refine hK1 _ _ ?_
  clear hK1
  refine W.seq fun K2 hK2 => ?_
  refine W.seq fun K3 hK3 => ?_
  refine W.region ?_
  refine ops_run 3 (by kernel_rfl) ?_
  rcases Bool.eq_false_or_eq_true (decide (g_ < 1)) with h4 | h4
  ·
    have h4p : g_ < 1 := of_decide_eq_true h4
    replace hm := ite_yes hm h4p
    refine ops_set 12 (v := .bool true) (eq_bool_of (by kernel_rfl) h4) ?_
    refine ops_set 11 (v := .bool true) (eq_bool_of (by kernel_rfl) h4) ?_
    refine ops_run 3 (by kernel_rfl) ?_
    refine ops_done (by kernel_rfl) ?_
    refine hK3 _ _ ?_
    clear hK3
    refine W.cond_true true (by kernel_rfl) rfl ?_
    refine W.seq fun K5 hK5 => ?_
    refine W.region ?_
    refine ops_run 2 (by kernel_rfl) ?_
    refine ops_done (by kernel_rfl) ?_
    refine hK5 _ _ ?_
    clear hK5
    refine W.ret (ret_seq ?_)
    obtain rfl := some_inj hm
    refine ret_of (.tuple #[(.int .i64 0), (.int .i64 1)]) (by kernel_rfl) ⟨_, ⟨rfl, rfl⟩, hs⟩
  ·
    have h4p : ¬ (g_ < 1) := of_decide_eq_false h4
    replace hm := ite_no hm h4p
    refine ops_set 12 (v := .bool false) (eq_bool_of (by kernel_rfl) h4) ?_
    refine ops_set 11 (v := .bool false) (eq_bool_of (by kernel_rfl) h4) ?_
    refine ops_run 3 (by kernel_rfl) ?_
    refine ops_done (by kernel_rfl) ?_
    refine hK3 _ _ ?_
    clear hK3
    refine W.cond (decide (g_ > 1099511627776)) (by kernel_rfl) (fun h6 => ?_) (fun h6 => ?_)
    ·
      have h6p : g_ > 1099511627776 := of_decide_eq_true h6
      replace hm := ite_yes hm h6p
      refine W.seq fun K7 hK7 => ?_
      refine W.region ?_
      refine ops_run 2 (by kernel_rfl) ?_
      refine ops_done (by kernel_rfl) ?_
      refine hK7 _ _ ?_
      clear hK7
      refine W.ret (ret_seq ?_)
      obtain rfl := some_inj hm
      refine ret_of (.tuple #[(.int .i64 0), (.int .i64 1)]) (by kernel_rfl) ⟨_, ⟨rfl, rfl⟩, hs⟩
    ·
      have h6p : ¬ (g_ > 1099511627776) := of_decide_eq_false h6
      replace hm := ite_no hm h6p
      refine W.skip ?_
      refine hK2 _ _ ?_
      clear hK2
      refine W.seq fun K8 hK8 => ?_
      refine W.region ?_
      refine ops_run 2 (by kernel_rfl) ?_
      obtain ⟨r9, h10, hm⟩ := bind_some hm
      refine ops_call0 hs (by kernel_rfl) (rget10_walk (i_ := i_) (img := img) (l := l) (hv := (hs.entAt 0 rfl refA_at)) (hm := h10) B _) ?_
      rintro _ _ w11 ⟨rfl, rfl⟩ hs12
      have hs13 := St.ap0 hs12
      refine ops_run 3 (by kernel_rfl) ?_
      refine ops_new (fun b => .pointer (some ⟨b, 0, none⟩)) (.cells [(.bool false), (.int .u64 0), (.int .u64 0)].toArray 73 (0, 0)) hs13 (by kernel_rfl) (fun b16 w14 hs15 => ?_)
      refine ops_store (off := 0) (cs := [(.bool false), (.int .u64 0), (.int .u64 0)]) (vs := [(.bool r9.1), (.int .u64 r9.2.1), (.int .u64 r9.2.2.1)]) hs15 (by kernel_rfl) (by simp) rfl (fun w17 hs18 => ?_)
      have hs19 : St B w l0 w17 [blk b16 (.cells [(.bool r9.1), (.int .u64 r9.2.1), (.int .u64 r9.2.2.1)].toArray 73 (0, 0)), refA (ptr vb) img l] := hs18
      refine ops_run 1 (by kernel_rfl) ?_
      refine ops_done (by kernel_rfl) ?_
      refine hK8 _ _ ?_
      clear hK8
      refine W.seq fun K20 hK20 => ?_
      refine W.seq fun K21 hK21 => ?_
      refine W.region ?_
      refine ops_run 2 (by kernel_rfl) ?_
      refine ops_done (by kernel_rfl) ?_
      refine hK21 _ _ ?_
      clear hK21
      refine W.cond (!decide (r9.2.2.2 = 0)) (by kernel_rfl) (fun h22 => ?_) (fun h22 => ?_)
      rotate_left
      ·
        have h22p : r9.2.2.2 = 0 := of_decide_eq_true (bnot_false h22)
        replace hm := ite_yes hm h22p
        refine W.skip ?_
        refine hK20 _ _ ?_
        clear hK20
        refine W.seq fun K23 hK23 => ?_
        refine W.seq fun K24 hK24 => ?_
        refine W.region ?_
        refine ops_run 2 (by kernel_rfl) ?_
        refine ops_R (runs_load (ad := ⟨b16, 1, none⟩) (v := (.int .u64 r9.2.1)) (by kernel_rfl) (hs19.cellAt 0 rfl rfl)) ?_
        refine ops_run 1 (by kernel_rfl) ?_
        refine ops_done (by kernel_rfl) ?_
        refine hK24 _ _ ?_
        clear hK24
        refine W.cond (decide (g_ < r9.2.1)) (by kernel_rfl) (fun h25 => ?_) (fun h25 => ?_)
        ·
          have h25p : g_ < r9.2.1 := of_decide_eq_true h25
          replace hm := ite_yes hm h25p
          refine W.seq fun K26 hK26 => ?_
          refine W.region ?_
          refine ops_run 2 (by kernel_rfl) ?_
          refine ops_done (by kernel_rfl) ?_
          refine hK26 _ _ ?_
          clear hK26
          refine W.ret (ret_seq ?_)
          obtain rfl := some_inj hm
          have hs27 := St.f1 hs19
          have hs28 := St.tk1 hs27
          refine ret_of (.tuple #[(.int .i64 2), (.int .i64 0)]) (by kernel_rfl) ⟨_, ⟨rfl, rfl⟩, hs28⟩
        ·
          have h25p : ¬ (g_ < r9.2.1) := of_decide_eq_false h25
          replace hm := ite_no hm h25p
          refine W.skip ?_
          refine hK23 _ _ ?_
          clear hK23
          refine W.seq fun K29 hK29 => ?_
          refine W.seq fun K30 hK30 => ?_
          refine W.region ?_
          refine ops_run 2 (by kernel_rfl) ?_
          refine ops_R (runs_load (ad := ⟨b16, 1, none⟩) (v := (.int .u64 r9.2.1)) (by kernel_rfl) (hs19.cellAt 0 rfl rfl)) ?_
          refine ops_run 1 (by kernel_rfl) ?_
          refine ops_done (by kernel_rfl) ?_
          refine hK30 _ _ ?_
          clear hK30
          refine W.cond (decide (g_ > r9.2.1)) (by kernel_rfl) (fun h31 => ?_) (fun h31 => ?_)
          ·
            have h31p : g_ > r9.2.1 := of_decide_eq_true h31
            replace hm := ite_yes hm h31p
            refine W.seq fun K32 hK32 => ?_
            refine W.region ?_
            refine ops_run 2 (by kernel_rfl) ?_
            refine ops_done (by kernel_rfl) ?_
            refine hK32 _ _ ?_
            clear hK32
            refine W.ret (ret_seq ?_)
            obtain rfl := some_inj hm
            have hs33 := St.f1 hs19
            have hs34 := St.tk1 hs33
            refine ret_of (.tuple #[(.int .i64 3), (.int .i64 0)]) (by kernel_rfl) ⟨_, ⟨rfl, rfl⟩, hs34⟩
          ·
            have h31p : ¬ (g_ > r9.2.1) := of_decide_eq_false h31
            replace hm := ite_no hm h31p
            refine W.skip ?_
            refine hK29 _ _ ?_
            clear hK29
            refine W.seq fun K35 hK35 => ?_
            refine W.seq fun K36 hK36 => ?_
            refine W.region ?_
            refine ops_run 1 (by kernel_rfl) ?_
            refine ops_R (runs_load (ad := ⟨b16, 0, none⟩) (v := (.bool r9.1)) (by kernel_rfl) (hs19.cellAt 0 rfl rfl)) ?_
            refine ops_run 1 (by kernel_rfl) ?_
            refine ops_done (by kernel_rfl) ?_
            refine hK36 _ _ ?_
            clear hK36
            refine W.cond (!r9.1) (by kernel_rfl) (fun h37 => ?_) (fun h37 => ?_)
            rotate_left
            ·
              have h37p : r9.1 = true := (bnot_false h37)
              replace hm := ite_yes hm h37p
              refine W.skip ?_
              refine hK35 _ _ ?_
              clear hK35
              refine W.seq fun K38 hK38 => ?_
              refine W.region ?_
              refine ops_run 1 (by kernel_rfl) ?_
              refine ops_store (off := 0) (cs := [(.bool r9.1), (.int .u64 r9.2.1), (.int .u64 r9.2.2.1)]) (vs := [(.bool false)]) hs19 (by kernel_rfl) (by simp) rfl (fun w39 hs40 => ?_)
              have hs41 : St B w l0 w39 [blk b16 (.cells [(.bool false), (.int .u64 r9.2.1), (.int .u64 r9.2.2.1)].toArray 73 (0, 0)), refA (ptr vb) img l] := hs40
              refine ops_done (by kernel_rfl) ?_
              refine hK38 _ _ ?_
              clear hK38
              refine W.seq fun K42 hK42 => ?_
              refine W.region ?_
              refine ops_run 2 (by kernel_rfl) ?_
              refine ops_R (runs_loadAgg (ad := ⟨b16, 0, none⟩) (cs := [(.bool false), (.int .u64 r9.2.1), (.int .u64 r9.2.2.1)]) (by kernel_rfl) (cells_sub (hs41.heapAt 0 rfl) rfl)) ?_
              obtain ⟨r43, h44, hm⟩ := bind_some hm
              have hs45 := St.f1 hs41
              refine ops_call1 hs45 (by kernel_rfl) (rput10_walk (vb := vb) (i_ := i_) (ho_ := false) (hg_ := r9.2.1) (hk_ := r9.2.2.1) (img := img) (l := l) (hm := h44) B _) ?_
              rintro _ _ w46 ⟨rfl, rfl⟩ hs47
              have hs48 := St.ap1 hs47
              refine ops_run 2 (by kernel_rfl) ?_
              refine ops_done (by kernel_rfl) ?_
              refine hK42 _ _ ?_
              clear hK42
              refine W.ret ?_
              obtain rfl := some_inj hm
              have hs49 := St.tk1 hs48
              refine ret_of (.tuple #[(.int .i64 0), (.int .i64 r43.1)]) (by kernel_rfl) ⟨_, ⟨rfl, rfl⟩, hs49⟩
            ·
              have h37p : ¬ (r9.1 = true) := ne_true_of_eq_false (bnot_true h37)
              replace hm := ite_no hm h37p
              refine W.seq fun K50 hK50 => ?_
              refine W.region ?_
              refine ops_run 2 (by kernel_rfl) ?_
              refine ops_done (by kernel_rfl) ?_
              refine hK50 _ _ ?_
              clear hK50
              refine W.ret (ret_seq ?_)
              obtain rfl := some_inj hm
              have hs51 := St.f1 hs19
              have hs52 := St.tk1 hs51
              refine ret_of (.tuple #[(.int .i64 1), (.int .i64 0)]) (by kernel_rfl) ⟨_, ⟨rfl, rfl⟩, hs52⟩
      ·
        have h22p : ¬ (r9.2.2.2 = 0) := of_decide_eq_false (bnot_true h22)
        replace hm := ite_no hm h22p
        refine W.seq fun K53 hK53 => ?_
        refine W.region ?_
        refine ops_run 3 (by kernel_rfl) ?_
        refine ops_done (by kernel_rfl) ?_
        refine hK53 _ _ ?_
        clear hK53
        refine W.ret (ret_seq ?_)
        obtain rfl := some_inj hm
        have hs54 := St.f1 hs19
        have hs55 := St.tk1 hs54
        refine ret_of (.tuple #[(.int .i64 0), (.int .i64 r9.2.2.2)]) (by kernel_rfl) ⟨_, ⟨rfl, rfl⟩, hs55⟩

end Go.Proofs.YthimamnblklkbaaDoor
