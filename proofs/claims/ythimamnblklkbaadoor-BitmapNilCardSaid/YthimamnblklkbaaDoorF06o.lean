/- Contracts of layer 6, by a program. -/
import Derived.Test.YthimamnblklkbaaDoorBt
namespace Go.Proofs.YthimamnblklkbaaDoor
open Go Go.RowKit
set_option linter.unusedSimpArgs false
set_option linter.unusedVariables false

set_option maxRecDepth 20000 in
theorem of_ok {vb : Nat} {img : List Int} {l : List (Int × Int)} {at_ many : Int} (B : Nat) (w : World) (hv : ViewAt (ptr vb) img l w) (hz : (img.length : Int) ≤ 1000000000000) (ho : (0 ≤ at_ ∧ at_ < (img.length : Int)) ∧ (1 ≤ many ∧ many ≤ 1000000000000) ∧ (many - 1) / 64 < (img.length : Int) - at_) : Spec Tryd.prog 21 #[(.pointer (some ⟨vb, 0, none⟩)), (.int .i64 at_), (.int .i64 many)] B w [] (fun v H' => ∃ b', v = .tuple #[ptr b', .int .i64 0] ∧ H' = [blk b' (.cells [(.pointer (some ⟨vb, 0, none⟩)), (.int .i64 at_), (.int .i64 many)].toArray 151 (0, 0))]) := by
  refine spec_Q Tryd.func21 rfl fun hs => ?_
  refine W.seq fun K1 hK1 => ?_
  refine W.region ?_
  refine ops_run 2 (by kernel_rfl) ?_
  refine ops_done (by kernel_rfl) ?_
  refine hK1 _ _ ?_
  clear hK1
  refine W.seq fun K2 hK2 => ?_
  refine W.block ?_
  refine W.seq fun K3 hK3 => ?_
  refine W.region ?_
  refine ops_run 3 (by kernel_rfl) ?_
  refine ops_done (by kernel_rfl) ?_
  refine hK3 _ _ ?_
  clear hK3
  refine W.cond_false false (by kernel_rfl) rfl ?_
  refine W.seq fun K4 hK4 => ?_
  refine W.region ?_
  refine ops_run 3 (by kernel_rfl) ?_
  refine ops_done (by kernel_rfl) ?_
  refine hK4 _ _ ?_
  clear hK4
  refine W.cond (decide (many < 1)) (by kernel_rfl) (fun h5 => ?_) (fun h5 => ?_)
  ·
    have h5p : many < 1 := of_decide_eq_true h5
    refine W.seq fun K6 hK6 => ?_
    refine W.region ?_
    refine ops_run 2 (by kernel_rfl) ?_
    refine ops_done (by kernel_rfl) ?_
    refine hK6 _ _ ?_
    clear hK6
    refine W.ret (ret_block (ret_seq ?_))
    exfalso
    omega
  ·
    have h5p : ¬ (many < 1) := of_decide_eq_false h5
    refine W.seq fun K7 hK7 => ?_
    refine W.seq fun K8 hK8 => ?_
    refine W.region ?_
    refine ops_run 3 (by kernel_rfl) ?_
    refine ops_done (by kernel_rfl) ?_
    refine hK8 _ _ ?_
    clear hK8
    refine W.cond (decide (at_ < 0)) (by kernel_rfl) (fun h9 => ?_) (fun h9 => ?_)
    ·
      have h9p : at_ < 0 := of_decide_eq_true h9
      refine W.skip ?_
      refine hK7 _ _ ?_
      clear hK7
      refine W.cond (decide (at_ < 0)) (by kernel_rfl) (fun h10 => ?_) (fun h10 => ?_)
      ·
        have h10p : at_ < 0 := of_decide_eq_true h10
        refine W.seq fun K11 hK11 => ?_
        refine W.region ?_
        refine ops_run 2 (by kernel_rfl) ?_
        refine ops_done (by kernel_rfl) ?_
        refine hK11 _ _ ?_
        clear hK11
        refine W.ret (ret_block (ret_seq ?_))
        exfalso
        omega
      ·
        have h10p : ¬ (at_ < 0) := of_decide_eq_false h10
        refine W.skip ?_
        refine normal_block ?_
        refine hK2 _ _ ?_
        clear hK2
        refine W.seq fun K12 hK12 => ?_
        refine W.region ?_
        refine ops_run 4 (by kernel_rfl) ?_
        refine ops_new (fun b => .pointer (some ⟨b, 0, none⟩)) (.cells [(.pointer (some ⟨vb, 0, none⟩)), (.int .i64 at_), (.int .i64 many)].toArray 151 (0, 0)) hs (by kernel_rfl) (fun b15 w13 hs14 => ?_)
        refine ops_run 2 (by kernel_rfl) ?_
        refine ops_done (by kernel_rfl) ?_
        refine hK12 _ _ ?_
        clear hK12
        refine W.ret ?_
        refine ret_of (.tuple #[(.pointer (some ⟨b15, 0, none⟩)), (.int .i64 0)]) (by kernel_rfl) ⟨_, ⟨b15, rfl, rfl⟩, hs14⟩
    ·
      have h9p : ¬ (at_ < 0) := of_decide_eq_false h9
      refine W.seq fun K16 hK16 => ?_
      refine W.region ?_
      refine ops_run 2 (by kernel_rfl) ?_
      refine ops_call (pre := []) hs (by kernel_rfl) (len_spec (hv := (viewAt_old hs hv)) B _) ?_
      rintro _ _ w17 ⟨rfl, rfl⟩ hs18
      have hs19 : St B w [] w17 [] := hs18
      refine ops_run 2 (by kernel_rfl) ?_
      refine ops_done (by kernel_rfl) ?_
      refine hK16 _ _ ?_
      clear hK16
      refine W.cond (decide (at_ ≥ (img.length : Int))) (by kernel_rfl) (fun h20 => ?_) (fun h20 => ?_)
      ·
        have h20p : at_ ≥ (img.length : Int) := of_decide_eq_true h20
        refine W.skip ?_
        refine hK7 _ _ ?_
        clear hK7
        refine W.cond (decide (at_ ≥ (img.length : Int))) (by kernel_rfl) (fun h21 => ?_) (fun h21 => ?_)
        ·
          have h21p : at_ ≥ (img.length : Int) := of_decide_eq_true h21
          refine W.seq fun K22 hK22 => ?_
          refine W.region ?_
          refine ops_run 2 (by kernel_rfl) ?_
          refine ops_done (by kernel_rfl) ?_
          refine hK22 _ _ ?_
          clear hK22
          refine W.ret (ret_block (ret_seq ?_))
          exfalso
          omega
        ·
          have h21p : ¬ (at_ ≥ (img.length : Int)) := of_decide_eq_false h21
          refine W.skip ?_
          refine normal_block ?_
          refine hK2 _ _ ?_
          clear hK2
          refine W.seq fun K23 hK23 => ?_
          refine W.region ?_
          refine ops_run 4 (by kernel_rfl) ?_
          refine ops_new (fun b => .pointer (some ⟨b, 0, none⟩)) (.cells [(.pointer (some ⟨vb, 0, none⟩)), (.int .i64 at_), (.int .i64 many)].toArray 151 (0, 0)) hs19 (by kernel_rfl) (fun b26 w24 hs25 => ?_)
          refine ops_run 2 (by kernel_rfl) ?_
          refine ops_done (by kernel_rfl) ?_
          refine hK23 _ _ ?_
          clear hK23
          refine W.ret ?_
          refine ret_of (.tuple #[(.pointer (some ⟨b26, 0, none⟩)), (.int .i64 0)]) (by kernel_rfl) ⟨_, ⟨b26, rfl, rfl⟩, hs25⟩
      ·
        have h20p : ¬ (at_ ≥ (img.length : Int)) := of_decide_eq_false h20
        refine W.region ?_
        refine ops_run 1 (by kernel_rfl) ?_
        have h27 : -9223372036854775808 ≤ (many - 1) ∧ (many - 1) ≤ 9223372036854775807 := by omega
        refine ops_val (v := .int .i64 (IntKind.i64.wrap (many - 1))) (v' := .int .i64 (many - 1)) (by kernel_rfl) (congrArg (Value.int .i64) (wrap_i64 h27.1 h27.2)) ?_
        have h28 : 0 ≤ (many - 1) := by omega
        have h29 : -9223372036854775808 ≤ ((many - 1) / 64) ∧ ((many - 1) / 64) ≤ 9223372036854775807 := by omega
        refine ops_R (v := .int .i64 ((many - 1) / 64)) (runs_quo (k := .i64) (a := (many - 1)) (b := 64) (by kernel_rfl) (by decide) ((congrArg IntKind.i64.wrap (Int.tdiv_eq_ediv_of_nonneg h28)).trans (wrap_i64 h29.1 h29.2))) ?_
        refine ops_run 1 (by kernel_rfl) ?_
        refine ops_call (pre := []) hs19 (by kernel_rfl) (len_spec (hv := (viewAt_old hs19 hv)) B _) ?_
        rintro _ _ w30 ⟨rfl, rfl⟩ hs31
        have hs32 : St B w [] w30 [] := hs31
        refine ops_run 1 (by kernel_rfl) ?_
        have h33 : -9223372036854775808 ≤ ((img.length : Int) - at_) ∧ ((img.length : Int) - at_) ≤ 9223372036854775807 := by omega
        refine ops_val (v := .int .i64 (IntKind.i64.wrap ((img.length : Int) - at_))) (v' := .int .i64 ((img.length : Int) - at_)) (by kernel_rfl) (congrArg (Value.int .i64) (wrap_i64 h33.1 h33.2)) ?_
        refine ops_run 2 (by kernel_rfl) ?_
        refine ops_done (by kernel_rfl) ?_
        refine hK7 _ _ ?_
        clear hK7
        refine W.cond (decide (((many - 1) / 64) ≥ ((img.length : Int) - at_))) (by kernel_rfl) (fun h34 => ?_) (fun h34 => ?_)
        ·
          have h34p : ((many - 1) / 64) ≥ ((img.length : Int) - at_) := of_decide_eq_true h34
          refine W.seq fun K35 hK35 => ?_
          refine W.region ?_
          refine ops_run 2 (by kernel_rfl) ?_
          refine ops_done (by kernel_rfl) ?_
          refine hK35 _ _ ?_
          clear hK35
          refine W.ret (ret_block (ret_seq ?_))
          exfalso
          omega
        ·
          have h34p : ¬ (((many - 1) / 64) ≥ ((img.length : Int) - at_)) := of_decide_eq_false h34
          refine W.skip ?_
          refine normal_block ?_
          refine hK2 _ _ ?_
          clear hK2
          refine W.seq fun K36 hK36 => ?_
          refine W.region ?_
          refine ops_run 4 (by kernel_rfl) ?_
          refine ops_new (fun b => .pointer (some ⟨b, 0, none⟩)) (.cells [(.pointer (some ⟨vb, 0, none⟩)), (.int .i64 at_), (.int .i64 many)].toArray 151 (0, 0)) hs32 (by kernel_rfl) (fun b39 w37 hs38 => ?_)
          refine ops_run 2 (by kernel_rfl) ?_
          refine ops_done (by kernel_rfl) ?_
          refine hK36 _ _ ?_
          clear hK36
          refine W.ret ?_
          refine ret_of (.tuple #[(.pointer (some ⟨b39, 0, none⟩)), (.int .i64 0)]) (by kernel_rfl) ⟨_, ⟨b39, rfl, rfl⟩, hs38⟩

set_option maxRecDepth 20000 in
theorem of_range {vb : Nat} {img : List Int} {l : List (Int × Int)} {at_ many : Int} (B : Nat) (w : World) (hv : ViewAt (ptr vb) img l w) (hz : (img.length : Int) ≤ 1000000000000) (ho : (0 ≤ at_ ∧ at_ < (img.length : Int)) ∧ (1 ≤ many ∧ many ≤ 1000000000000) ∧ ¬ (many - 1) / 64 < (img.length : Int) - at_) : Spec Tryd.prog 21 #[(.pointer (some ⟨vb, 0, none⟩)), (.int .i64 at_), (.int .i64 many)] B w [] (fun v H' => v = .tuple #[.pointer none, .int .i64 8] ∧ H' = []) := by
  refine spec_Q Tryd.func21 rfl fun hs => ?_
  refine W.seq fun K1 hK1 => ?_
  refine W.region ?_
  refine ops_run 2 (by kernel_rfl) ?_
  refine ops_done (by kernel_rfl) ?_
  refine hK1 _ _ ?_
  clear hK1
  refine W.seq fun K2 hK2 => ?_
  refine W.block ?_
  refine W.seq fun K3 hK3 => ?_
  refine W.region ?_
  refine ops_run 3 (by kernel_rfl) ?_
  refine ops_done (by kernel_rfl) ?_
  refine hK3 _ _ ?_
  clear hK3
  refine W.cond_false false (by kernel_rfl) rfl ?_
  refine W.seq fun K4 hK4 => ?_
  refine W.region ?_
  refine ops_run 3 (by kernel_rfl) ?_
  refine ops_done (by kernel_rfl) ?_
  refine hK4 _ _ ?_
  clear hK4
  refine W.cond (decide (many < 1)) (by kernel_rfl) (fun h5 => ?_) (fun h5 => ?_)
  ·
    have h5p : many < 1 := of_decide_eq_true h5
    refine W.seq fun K6 hK6 => ?_
    refine W.region ?_
    refine ops_run 2 (by kernel_rfl) ?_
    refine ops_done (by kernel_rfl) ?_
    refine hK6 _ _ ?_
    clear hK6
    refine W.ret (ret_block (ret_seq ?_))
    exfalso
    omega
  ·
    have h5p : ¬ (many < 1) := of_decide_eq_false h5
    refine W.seq fun K7 hK7 => ?_
    refine W.seq fun K8 hK8 => ?_
    refine W.region ?_
    refine ops_run 3 (by kernel_rfl) ?_
    refine ops_done (by kernel_rfl) ?_
    refine hK8 _ _ ?_
    clear hK8
    refine W.cond (decide (at_ < 0)) (by kernel_rfl) (fun h9 => ?_) (fun h9 => ?_)
    ·
      have h9p : at_ < 0 := of_decide_eq_true h9
      refine W.skip ?_
      refine hK7 _ _ ?_
      clear hK7
      refine W.cond (decide (at_ < 0)) (by kernel_rfl) (fun h10 => ?_) (fun h10 => ?_)
      ·
        have h10p : at_ < 0 := of_decide_eq_true h10
        refine W.seq fun K11 hK11 => ?_
        refine W.region ?_
        refine ops_run 2 (by kernel_rfl) ?_
        refine ops_done (by kernel_rfl) ?_
        refine hK11 _ _ ?_
        clear hK11
        refine W.ret (ret_block (ret_seq ?_))
        refine ret_of (.tuple #[(.pointer none), (.int .i64 8)]) (by kernel_rfl) ⟨_, ⟨rfl, rfl⟩, hs⟩
      ·
        have h10p : ¬ (at_ < 0) := of_decide_eq_false h10
        refine W.skip ?_
        refine normal_block ?_
        refine hK2 _ _ ?_
        clear hK2
        refine W.seq fun K12 hK12 => ?_
        refine W.region ?_
        refine ops_run 4 (by kernel_rfl) ?_
        refine ops_new (fun b => .pointer (some ⟨b, 0, none⟩)) (.cells [(.pointer (some ⟨vb, 0, none⟩)), (.int .i64 at_), (.int .i64 many)].toArray 151 (0, 0)) hs (by kernel_rfl) (fun b15 w13 hs14 => ?_)
        refine ops_run 2 (by kernel_rfl) ?_
        refine ops_done (by kernel_rfl) ?_
        refine hK12 _ _ ?_
        clear hK12
        refine W.ret ?_
        exfalso
        omega
    ·
      have h9p : ¬ (at_ < 0) := of_decide_eq_false h9
      refine W.seq fun K16 hK16 => ?_
      refine W.region ?_
      refine ops_run 2 (by kernel_rfl) ?_
      refine ops_call (pre := []) hs (by kernel_rfl) (len_spec (hv := (viewAt_old hs hv)) B _) ?_
      rintro _ _ w17 ⟨rfl, rfl⟩ hs18
      have hs19 : St B w [] w17 [] := hs18
      refine ops_run 2 (by kernel_rfl) ?_
      refine ops_done (by kernel_rfl) ?_
      refine hK16 _ _ ?_
      clear hK16
      refine W.cond (decide (at_ ≥ (img.length : Int))) (by kernel_rfl) (fun h20 => ?_) (fun h20 => ?_)
      ·
        have h20p : at_ ≥ (img.length : Int) := of_decide_eq_true h20
        refine W.skip ?_
        refine hK7 _ _ ?_
        clear hK7
        refine W.cond (decide (at_ ≥ (img.length : Int))) (by kernel_rfl) (fun h21 => ?_) (fun h21 => ?_)
        ·
          have h21p : at_ ≥ (img.length : Int) := of_decide_eq_true h21
          refine W.seq fun K22 hK22 => ?_
          refine W.region ?_
          refine ops_run 2 (by kernel_rfl) ?_
          refine ops_done (by kernel_rfl) ?_
          refine hK22 _ _ ?_
          clear hK22
          refine W.ret (ret_block (ret_seq ?_))
          refine ret_of (.tuple #[(.pointer none), (.int .i64 8)]) (by kernel_rfl) ⟨_, ⟨rfl, rfl⟩, hs19⟩
        ·
          have h21p : ¬ (at_ ≥ (img.length : Int)) := of_decide_eq_false h21
          refine W.skip ?_
          refine normal_block ?_
          refine hK2 _ _ ?_
          clear hK2
          refine W.seq fun K23 hK23 => ?_
          refine W.region ?_
          refine ops_run 4 (by kernel_rfl) ?_
          refine ops_new (fun b => .pointer (some ⟨b, 0, none⟩)) (.cells [(.pointer (some ⟨vb, 0, none⟩)), (.int .i64 at_), (.int .i64 many)].toArray 151 (0, 0)) hs19 (by kernel_rfl) (fun b26 w24 hs25 => ?_)
          refine ops_run 2 (by kernel_rfl) ?_
          refine ops_done (by kernel_rfl) ?_
          refine hK23 _ _ ?_
          clear hK23
          refine W.ret ?_
          exfalso
          omega
      ·
        have h20p : ¬ (at_ ≥ (img.length : Int)) := of_decide_eq_false h20
        refine W.region ?_
        refine ops_run 1 (by kernel_rfl) ?_
        have h27 : -9223372036854775808 ≤ (many - 1) ∧ (many - 1) ≤ 9223372036854775807 := by omega
        refine ops_val (v := .int .i64 (IntKind.i64.wrap (many - 1))) (v' := .int .i64 (many - 1)) (by kernel_rfl) (congrArg (Value.int .i64) (wrap_i64 h27.1 h27.2)) ?_
        have h28 : 0 ≤ (many - 1) := by omega
        have h29 : -9223372036854775808 ≤ ((many - 1) / 64) ∧ ((many - 1) / 64) ≤ 9223372036854775807 := by omega
        refine ops_R (v := .int .i64 ((many - 1) / 64)) (runs_quo (k := .i64) (a := (many - 1)) (b := 64) (by kernel_rfl) (by decide) ((congrArg IntKind.i64.wrap (Int.tdiv_eq_ediv_of_nonneg h28)).trans (wrap_i64 h29.1 h29.2))) ?_
        refine ops_run 1 (by kernel_rfl) ?_
        refine ops_call (pre := []) hs19 (by kernel_rfl) (len_spec (hv := (viewAt_old hs19 hv)) B _) ?_
        rintro _ _ w30 ⟨rfl, rfl⟩ hs31
        have hs32 : St B w [] w30 [] := hs31
        refine ops_run 1 (by kernel_rfl) ?_
        have h33 : -9223372036854775808 ≤ ((img.length : Int) - at_) ∧ ((img.length : Int) - at_) ≤ 9223372036854775807 := by omega
        refine ops_val (v := .int .i64 (IntKind.i64.wrap ((img.length : Int) - at_))) (v' := .int .i64 ((img.length : Int) - at_)) (by kernel_rfl) (congrArg (Value.int .i64) (wrap_i64 h33.1 h33.2)) ?_
        refine ops_run 2 (by kernel_rfl) ?_
        refine ops_done (by kernel_rfl) ?_
        refine hK7 _ _ ?_
        clear hK7
        refine W.cond (decide (((many - 1) / 64) ≥ ((img.length : Int) - at_))) (by kernel_rfl) (fun h34 => ?_) (fun h34 => ?_)
        ·
          have h34p : ((many - 1) / 64) ≥ ((img.length : Int) - at_) := of_decide_eq_true h34
          refine W.seq fun K35 hK35 => ?_
          refine W.region ?_
          refine ops_run 2 (by kernel_rfl) ?_
          refine ops_done (by kernel_rfl) ?_
          refine hK35 _ _ ?_
          clear hK35
          refine W.ret (ret_block (ret_seq ?_))
          refine ret_of (.tuple #[(.pointer none), (.int .i64 8)]) (by kernel_rfl) ⟨_, ⟨rfl, rfl⟩, hs32⟩
        ·
          have h34p : ¬ (((many - 1) / 64) ≥ ((img.length : Int) - at_)) := of_decide_eq_false h34
          refine W.skip ?_
          refine normal_block ?_
          refine hK2 _ _ ?_
          clear hK2
          refine W.seq fun K36 hK36 => ?_
          refine W.region ?_
          refine ops_run 4 (by kernel_rfl) ?_
          refine ops_new (fun b => .pointer (some ⟨b, 0, none⟩)) (.cells [(.pointer (some ⟨vb, 0, none⟩)), (.int .i64 at_), (.int .i64 many)].toArray 151 (0, 0)) hs32 (by kernel_rfl) (fun b39 w37 hs38 => ?_)
          refine ops_run 2 (by kernel_rfl) ?_
          refine ops_done (by kernel_rfl) ?_
          refine hK36 _ _ ?_
          clear hK36
          refine W.ret ?_
          exfalso
          omega

set_option maxRecDepth 20000 in
theorem of_nil {at_ many : Int} (B : Nat) (w : World) : Spec Tryd.prog 21 #[(.pointer none), (.int .i64 at_), (.int .i64 many)] B w [] (fun v H' => v = .tuple #[.pointer none, .int .i64 2] ∧ H' = []) := by
  refine spec_Q Tryd.func21 rfl fun hs => ?_
  refine W.seq fun K1 hK1 => ?_
  refine W.region ?_
  refine ops_run 2 (by kernel_rfl) ?_
  refine ops_done (by kernel_rfl) ?_
  refine hK1 _ _ ?_
  clear hK1
  refine W.seq fun K2 hK2 => ?_
  refine W.block ?_
  refine W.seq fun K3 hK3 => ?_
  refine W.region ?_
  refine ops_run 3 (by kernel_rfl) ?_
  refine ops_done (by kernel_rfl) ?_
  refine hK3 _ _ ?_
  clear hK3
  refine W.cond_true true (by kernel_rfl) rfl ?_
  refine W.seq fun K4 hK4 => ?_
  refine W.region ?_
  refine ops_run 2 (by kernel_rfl) ?_
  refine ops_done (by kernel_rfl) ?_
  refine hK4 _ _ ?_
  clear hK4
  refine W.ret (ret_block (ret_seq ?_))
  refine ret_of (.tuple #[(.pointer none), (.int .i64 2)]) (by kernel_rfl) ⟨_, ⟨rfl, rfl⟩, hs⟩

end Go.Proofs.YthimamnblklkbaaDoor
