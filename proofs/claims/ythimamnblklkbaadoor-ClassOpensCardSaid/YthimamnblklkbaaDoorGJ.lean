/- Texts of one kind, one behind the other: F0a, F0b, F0c, A0t, A0d, A0e, A0f. -/
import Derived.Test.YthimamnblklkbaaDoorGE
import Derived.Test.YthimamnblklkbaaDoorGI
import Derived.Test.YthimamnblklkbaaDoorGC
set_option linter.unusedVariables false
set_option linter.unusedSimpArgs false
/- Contracts of layer 10, by a program. -/
namespace Go.Proofs.YthimamnblklkbaaDoor
open Go Go.RowKit
set_option linter.unusedSimpArgs false
set_option linter.unusedVariables false

set_option maxRecDepth 20000 in
theorem sess_spec {i_ : Int} (B : Nat) (w : World) (hL : CellsAt (some ⟨1, 0, none⟩) [(.int .i64 1), (.int .i64 2), (.int .i64 2)] w) : Spec Tryd.prog 143 #[(.int .i64 i_)] B w [] (fun v H' => v = .int .i64 (sessAt i_) ∧ H' = []) := by
  refine spec_Q Tryd.func143 rfl fun hs => ?_
  refine W.seq fun K1 hK1 => ?_
  refine W.region ?_
  refine ops_run 1 (by kernel_rfl) ?_
  refine ops_done (by kernel_rfl) ?_
  refine hK1 _ _ ?_
  clear hK1
  refine W.seq fun K2 hK2 => ?_
  refine W.region ?_
  refine ops_R (runs_loadAgg (ad := ⟨1, 0, none⟩) (cs := [(.int .i64 1), (.int .i64 2), (.int .i64 2)]) (by kernel_rfl) (hs.oldCells hL)) ?_
  refine ops_run 1 (by kernel_rfl) ?_
  refine ops_call0 hs (by kernel_rfl) (place2_spec (gw := 1) (gi := 2) (gb := 2) (n_ := i_) B _) ?_
  rintro _ _ w3 ⟨rfl, rfl⟩ hs4
  have hs5 := St.ap0 hs4
  refine ops_run 1 (by kernel_rfl) ?_
  refine ops_done (by kernel_rfl) ?_
  refine hK2 _ _ ?_
  clear hK2
  refine W.ret ?_
  refine ret_of (.int .i64 (placeOf 2 1 2 2 i_)) (by kernel_rfl) ⟨_, ⟨congrArg (Value.int .i64) (place2_eq i_), rfl⟩, hs5⟩

set_option maxRecDepth 20000 in
theorem rsess_spec {i_ : Int} (B : Nat) (w : World) : Spec Tryd.prog 54 #[(.int .i64 i_)] B w [] (fun v H' => v = .int .i64 (sessAt i_) ∧ H' = []) := by
  refine spec_Q Tryd.func54 rfl fun hs => ?_
  refine W.seq fun K1 hK1 => ?_
  refine W.region ?_
  refine ops_run 1 (by kernel_rfl) ?_
  refine ops_done (by kernel_rfl) ?_
  refine hK1 _ _ ?_
  clear hK1
  refine W.seq fun K2 hK2 => ?_
  refine W.seq fun K3 hK3 => ?_
  refine W.region ?_
  refine ops_run 3 (by kernel_rfl) ?_
  rcases Bool.eq_false_or_eq_true (decide (i_ < 0)) with h4 | h4
  ·
    have h4p : i_ < 0 := of_decide_eq_true h4
    refine ops_set 5 (v := .bool true) (eq_bool_of (by kernel_rfl) h4) ?_
    refine ops_set 4 (v := .bool true) (eq_bool_of (by kernel_rfl) h4) ?_
    refine ops_run 3 (by kernel_rfl) ?_
    refine ops_done (by kernel_rfl) ?_
    refine hK3 _ _ ?_
    clear hK3
    refine W.cond_true true (by kernel_rfl) rfl ?_
    refine W.seq fun K5 hK5 => ?_
    refine W.region ?_
    refine ops_run 1 (by kernel_rfl) ?_
    refine ops_done (by kernel_rfl) ?_
    refine hK5 _ _ ?_
    clear hK5
    refine W.ret (ret_seq ?_)
    refine ret_of (.int .i64 (-1)) (by kernel_rfl) ⟨_, ⟨congrArg (Value.int .i64) (by have hse_ := sess_range i_; unfold sessAt; split <;> omega), rfl⟩, hs⟩
  ·
    have h4p : ¬ (i_ < 0) := of_decide_eq_false h4
    refine ops_set 5 (v := .bool false) (eq_bool_of (by kernel_rfl) h4) ?_
    refine ops_set 4 (v := .bool false) (eq_bool_of (by kernel_rfl) h4) ?_
    refine ops_run 3 (by kernel_rfl) ?_
    refine ops_done (by kernel_rfl) ?_
    refine hK3 _ _ ?_
    clear hK3
    refine W.cond (decide (i_ ≥ 4)) (by kernel_rfl) (fun h6 => ?_) (fun h6 => ?_)
    ·
      have h6p : i_ ≥ 4 := of_decide_eq_true h6
      refine W.seq fun K7 hK7 => ?_
      refine W.region ?_
      refine ops_run 1 (by kernel_rfl) ?_
      refine ops_done (by kernel_rfl) ?_
      refine hK7 _ _ ?_
      clear hK7
      refine W.ret (ret_seq ?_)
      refine ret_of (.int .i64 (-1)) (by kernel_rfl) ⟨_, ⟨congrArg (Value.int .i64) (by have hse_ := sess_range i_; unfold sessAt; split <;> omega), rfl⟩, hs⟩
    ·
      have h6p : ¬ (i_ ≥ 4) := of_decide_eq_false h6
      refine W.skip ?_
      refine hK2 _ _ ?_
      clear hK2
      refine W.seq fun K8 hK8 => ?_
      refine W.region ?_
      refine ops_run 1 (by kernel_rfl) ?_
      have h9 : -9223372036854775808 ≤ (64 * i_) ∧ (64 * i_) ≤ 9223372036854775807 := by omega
      refine ops_val (v := .int .i64 (IntKind.i64.wrap (64 * i_))) (v' := .int .i64 (64 * i_)) (by kernel_rfl) (congrArg (Value.int .i64) (wrap_i64 h9.1 h9.2)) ?_
      have h10 : -9223372036854775808 ≤ (8 + (64 * i_)) ∧ (8 + (64 * i_)) ≤ 9223372036854775807 := by omega
      refine ops_val (v := .int .i64 (IntKind.i64.wrap (8 + (64 * i_)))) (v' := .int .i64 (8 + (64 * i_))) (by kernel_rfl) (congrArg (Value.int .i64) (wrap_i64 h10.1 h10.2)) ?_
      refine ops_run 1 (by kernel_rfl) ?_
      refine ops_done (by kernel_rfl) ?_
      refine hK8 _ _ ?_
      clear hK8
      refine W.ret ?_
      refine ret_of (.int .i64 (8 + (64 * i_))) (by kernel_rfl) ⟨_, ⟨congrArg (Value.int .i64) (by have hse_ := sess_range i_; unfold sessAt; split <;> omega), rfl⟩, hs⟩

set_option maxRecDepth 20000 in
theorem slotAt_part {i_ k_ : Int} (B : Nat) (w : World) (hL : CellsAt (some ⟨1, 0, none⟩) [(.int .i64 1), (.int .i64 2), (.int .i64 2)] w) : Spec Tryd.prog 147 #[(.int .i64 i_), (.int .i64 k_), (.int .i64 4), (.int .i64 8), (.int .i64 12)] B w [] (fun v H' => v = .int .i64 (slotAt i_ k_) ∧ H' = []) := by
  refine spec_Q Tryd.func147 rfl fun hs => ?_
  refine W.seq fun K1 hK1 => ?_
  refine W.region ?_
  refine ops_run 1 (by kernel_rfl) ?_
  refine ops_done (by kernel_rfl) ?_
  refine hK1 _ _ ?_
  clear hK1
  refine W.seq fun K2 hK2 => ?_
  refine W.region ?_
  refine ops_run 1 (by kernel_rfl) ?_
  refine ops_call0 hs (by kernel_rfl) (sess_spec (i_ := i_) (hL := (hs.oldCells hL)) B _) ?_
  rintro _ _ w3 ⟨rfl, rfl⟩ hs4
  have hs5 := St.ap0 hs4
  refine ops_run 1 (by kernel_rfl) ?_
  refine ops_done (by kernel_rfl) ?_
  refine hK2 _ _ ?_
  clear hK2
  refine W.seq fun K6 hK6 => ?_
  refine W.seq fun K7 hK7 => ?_
  refine W.region ?_
  refine ops_run 3 (by kernel_rfl) ?_
  rcases Bool.eq_false_or_eq_true (decide ((sessAt i_) < 0)) with h8 | h8
  ·
    have h8p : (sessAt i_) < 0 := of_decide_eq_true h8
    refine ops_set 16 (v := .bool true) (eq_bool_of (by kernel_rfl) h8) ?_
    refine ops_set 15 (v := .bool true) (eq_bool_of (by kernel_rfl) h8) ?_
    refine ops_run 6 (by kernel_rfl) ?_
    refine ops_done (by kernel_rfl) ?_
    refine hK7 _ _ ?_
    clear hK7
    refine W.cond_true true (by kernel_rfl) rfl ?_
    refine W.seq fun K9 hK9 => ?_
    refine W.region ?_
    refine ops_run 1 (by kernel_rfl) ?_
    refine ops_done (by kernel_rfl) ?_
    refine hK9 _ _ ?_
    clear hK9
    refine W.ret (ret_seq ?_)
    refine ret_of (.int .i64 (-1)) (by kernel_rfl) ⟨_, ⟨congrArg (Value.int .i64) (by have hse_ := sess_range i_; unfold slotAt; split <;> omega), rfl⟩, hs5⟩
  ·
    have h8p : ¬ ((sessAt i_) < 0) := of_decide_eq_false h8
    refine ops_set 16 (v := .bool false) (eq_bool_of (by kernel_rfl) h8) ?_
    refine ops_set 15 (v := .bool false) (eq_bool_of (by kernel_rfl) h8) ?_
    refine ops_run 3 (by kernel_rfl) ?_
    refine ops_call0 hs5 (by kernel_rfl) (within_spec (n_ := k_) (f_ := 0) (t_ := 3) B _) ?_
    rintro _ _ w10 ⟨rfl, rfl⟩ hs11
    have hs12 := St.ap0 hs11
    refine ops_run 2 (by kernel_rfl) ?_
    refine ops_done (by kernel_rfl) ?_
    refine hK7 _ _ ?_
    clear hK7
    refine W.cond (!(decide (0 ≤ k_ ∧ k_ ≤ 3))) (by kernel_rfl) (fun h13 => ?_) (fun h13 => ?_)
    ·
      have h13p : ¬ (0 ≤ k_ ∧ k_ ≤ 3) := of_decide_eq_false (bnot_true h13)
      refine W.seq fun K14 hK14 => ?_
      refine W.region ?_
      refine ops_run 1 (by kernel_rfl) ?_
      refine ops_done (by kernel_rfl) ?_
      refine hK14 _ _ ?_
      clear hK14
      refine W.ret (ret_seq ?_)
      refine ret_of (.int .i64 (-1)) (by kernel_rfl) ⟨_, ⟨congrArg (Value.int .i64) (by have hse_ := sess_range i_; unfold slotAt; split <;> omega), rfl⟩, hs12⟩
    ·
      have h13p : 0 ≤ k_ ∧ k_ ≤ 3 := of_decide_eq_true (bnot_false h13)
      refine W.skip ?_
      refine hK6 _ _ ?_
      clear hK6
      refine W.seq fun K15 hK15 => ?_
      refine W.region ?_
      refine ops_run 2 (by kernel_rfl) ?_
      have h16 : -9223372036854775808 ≤ ((sessAt i_) + 8) ∧ ((sessAt i_) + 8) ≤ 9223372036854775807 := by (have hse_ := sess_range i_; omega)
      refine ops_val (v := .int .i64 (IntKind.i64.wrap ((sessAt i_) + 8))) (v' := .int .i64 ((sessAt i_) + 8)) (by kernel_rfl) (congrArg (Value.int .i64) (wrap_i64 h16.1 h16.2)) ?_
      refine ops_run 2 (by kernel_rfl) ?_
      have h17 : -9223372036854775808 ≤ (12 * k_) ∧ (12 * k_) ≤ 9223372036854775807 := by (have hse_ := sess_range i_; omega)
      refine ops_val (v := .int .i64 (IntKind.i64.wrap (12 * k_))) (v' := .int .i64 (12 * k_)) (by kernel_rfl) (congrArg (Value.int .i64) (wrap_i64 h17.1 h17.2)) ?_
      have h18 : -9223372036854775808 ≤ (((sessAt i_) + 8) + (12 * k_)) ∧ (((sessAt i_) + 8) + (12 * k_)) ≤ 9223372036854775807 := by (have hse_ := sess_range i_; omega)
      refine ops_val (v := .int .i64 (IntKind.i64.wrap (((sessAt i_) + 8) + (12 * k_)))) (v' := .int .i64 (((sessAt i_) + 8) + (12 * k_))) (by kernel_rfl) (congrArg (Value.int .i64) (wrap_i64 h18.1 h18.2)) ?_
      refine ops_run 1 (by kernel_rfl) ?_
      refine ops_done (by kernel_rfl) ?_
      refine hK15 _ _ ?_
      clear hK15
      refine W.ret ?_
      refine ret_of (.int .i64 (((sessAt i_) + 8) + (12 * k_))) (by kernel_rfl) ⟨_, ⟨congrArg (Value.int .i64) (by have hse_ := sess_range i_; unfold slotAt; split <;> omega), rfl⟩, hs12⟩

set_option maxRecDepth 20000 in
theorem descAt_part {i_ k_ : Int} (B : Nat) (w : World) (hL : CellsAt (some ⟨1, 0, none⟩) [(.int .i64 1), (.int .i64 2), (.int .i64 2)] w) : Spec Tryd.prog 147 #[(.int .i64 i_), (.int .i64 k_), (.int .i64 4), (.int .i64 56), (.int .i64 2)] B w [] (fun v H' => v = .int .i64 (descAt i_ k_) ∧ H' = []) := by
  refine spec_Q Tryd.func147 rfl fun hs => ?_
  refine W.seq fun K1 hK1 => ?_
  refine W.region ?_
  refine ops_run 1 (by kernel_rfl) ?_
  refine ops_done (by kernel_rfl) ?_
  refine hK1 _ _ ?_
  clear hK1
  refine W.seq fun K2 hK2 => ?_
  refine W.region ?_
  refine ops_run 1 (by kernel_rfl) ?_
  refine ops_call0 hs (by kernel_rfl) (sess_spec (i_ := i_) (hL := (hs.oldCells hL)) B _) ?_
  rintro _ _ w3 ⟨rfl, rfl⟩ hs4
  have hs5 := St.ap0 hs4
  refine ops_run 1 (by kernel_rfl) ?_
  refine ops_done (by kernel_rfl) ?_
  refine hK2 _ _ ?_
  clear hK2
  refine W.seq fun K6 hK6 => ?_
  refine W.seq fun K7 hK7 => ?_
  refine W.region ?_
  refine ops_run 3 (by kernel_rfl) ?_
  rcases Bool.eq_false_or_eq_true (decide ((sessAt i_) < 0)) with h8 | h8
  ·
    have h8p : (sessAt i_) < 0 := of_decide_eq_true h8
    refine ops_set 16 (v := .bool true) (eq_bool_of (by kernel_rfl) h8) ?_
    refine ops_set 15 (v := .bool true) (eq_bool_of (by kernel_rfl) h8) ?_
    refine ops_run 6 (by kernel_rfl) ?_
    refine ops_done (by kernel_rfl) ?_
    refine hK7 _ _ ?_
    clear hK7
    refine W.cond_true true (by kernel_rfl) rfl ?_
    refine W.seq fun K9 hK9 => ?_
    refine W.region ?_
    refine ops_run 1 (by kernel_rfl) ?_
    refine ops_done (by kernel_rfl) ?_
    refine hK9 _ _ ?_
    clear hK9
    refine W.ret (ret_seq ?_)
    refine ret_of (.int .i64 (-1)) (by kernel_rfl) ⟨_, ⟨congrArg (Value.int .i64) (by have hse_ := sess_range i_; unfold descAt; split <;> omega), rfl⟩, hs5⟩
  ·
    have h8p : ¬ ((sessAt i_) < 0) := of_decide_eq_false h8
    refine ops_set 16 (v := .bool false) (eq_bool_of (by kernel_rfl) h8) ?_
    refine ops_set 15 (v := .bool false) (eq_bool_of (by kernel_rfl) h8) ?_
    refine ops_run 3 (by kernel_rfl) ?_
    refine ops_call0 hs5 (by kernel_rfl) (within_spec (n_ := k_) (f_ := 0) (t_ := 3) B _) ?_
    rintro _ _ w10 ⟨rfl, rfl⟩ hs11
    have hs12 := St.ap0 hs11
    refine ops_run 2 (by kernel_rfl) ?_
    refine ops_done (by kernel_rfl) ?_
    refine hK7 _ _ ?_
    clear hK7
    refine W.cond (!(decide (0 ≤ k_ ∧ k_ ≤ 3))) (by kernel_rfl) (fun h13 => ?_) (fun h13 => ?_)
    ·
      have h13p : ¬ (0 ≤ k_ ∧ k_ ≤ 3) := of_decide_eq_false (bnot_true h13)
      refine W.seq fun K14 hK14 => ?_
      refine W.region ?_
      refine ops_run 1 (by kernel_rfl) ?_
      refine ops_done (by kernel_rfl) ?_
      refine hK14 _ _ ?_
      clear hK14
      refine W.ret (ret_seq ?_)
      refine ret_of (.int .i64 (-1)) (by kernel_rfl) ⟨_, ⟨congrArg (Value.int .i64) (by have hse_ := sess_range i_; unfold descAt; split <;> omega), rfl⟩, hs12⟩
    ·
      have h13p : 0 ≤ k_ ∧ k_ ≤ 3 := of_decide_eq_true (bnot_false h13)
      refine W.skip ?_
      refine hK6 _ _ ?_
      clear hK6
      refine W.seq fun K15 hK15 => ?_
      refine W.region ?_
      refine ops_run 2 (by kernel_rfl) ?_
      have h16 : -9223372036854775808 ≤ ((sessAt i_) + 56) ∧ ((sessAt i_) + 56) ≤ 9223372036854775807 := by (have hse_ := sess_range i_; omega)
      refine ops_val (v := .int .i64 (IntKind.i64.wrap ((sessAt i_) + 56))) (v' := .int .i64 ((sessAt i_) + 56)) (by kernel_rfl) (congrArg (Value.int .i64) (wrap_i64 h16.1 h16.2)) ?_
      refine ops_run 2 (by kernel_rfl) ?_
      have h17 : -9223372036854775808 ≤ (2 * k_) ∧ (2 * k_) ≤ 9223372036854775807 := by (have hse_ := sess_range i_; omega)
      refine ops_val (v := .int .i64 (IntKind.i64.wrap (2 * k_))) (v' := .int .i64 (2 * k_)) (by kernel_rfl) (congrArg (Value.int .i64) (wrap_i64 h17.1 h17.2)) ?_
      have h18 : -9223372036854775808 ≤ (((sessAt i_) + 56) + (2 * k_)) ∧ (((sessAt i_) + 56) + (2 * k_)) ≤ 9223372036854775807 := by (have hse_ := sess_range i_; omega)
      refine ops_val (v := .int .i64 (IntKind.i64.wrap (((sessAt i_) + 56) + (2 * k_)))) (v' := .int .i64 (((sessAt i_) + 56) + (2 * k_))) (by kernel_rfl) (congrArg (Value.int .i64) (wrap_i64 h18.1 h18.2)) ?_
      refine ops_run 1 (by kernel_rfl) ?_
      refine ops_done (by kernel_rfl) ?_
      refine hK15 _ _ ?_
      clear hK15
      refine W.ret ?_
      refine ret_of (.int .i64 (((sessAt i_) + 56) + (2 * k_))) (by kernel_rfl) ⟨_, ⟨congrArg (Value.int .i64) (by have hse_ := sess_range i_; unfold descAt; split <;> omega), rfl⟩, hs12⟩

set_option maxRecDepth 20000 in
theorem slotat_spec {i_ k_ : Int} (B : Nat) (w : World) (hL : CellsAt (some ⟨1, 0, none⟩) [(.int .i64 1), (.int .i64 2), (.int .i64 2)] w) : Spec Tryd.prog 106 #[(.int .i64 i_), (.int .i64 k_)] B w [] (fun v H' => v = .int .i64 (slotAt i_ k_) ∧ H' = []) := by
  refine spec_Q Tryd.func106 rfl fun hs => ?_
  refine W.seq fun K1 hK1 => ?_
  refine W.region ?_
  refine ops_run 1 (by kernel_rfl) ?_
  refine ops_done (by kernel_rfl) ?_
  refine hK1 _ _ ?_
  clear hK1
  refine W.seq fun K2 hK2 => ?_
  refine W.region ?_
  refine ops_run 2 (by kernel_rfl) ?_
  refine ops_call0 hs (by kernel_rfl) (slotAt_part (i_ := i_) (k_ := k_) (hL := (hs.oldCells hL)) B _) ?_
  rintro _ _ w3 ⟨rfl, rfl⟩ hs4
  have hs5 := St.ap0 hs4
  refine ops_run 1 (by kernel_rfl) ?_
  refine ops_done (by kernel_rfl) ?_
  refine hK2 _ _ ?_
  clear hK2
  refine W.ret ?_
  refine ret_of (.int .i64 (slotAt i_ k_)) (by kernel_rfl) ⟨_, ⟨rfl, rfl⟩, hs5⟩

set_option maxRecDepth 20000 in
theorem descat_spec {i_ k_ : Int} (B : Nat) (w : World) (hL : CellsAt (some ⟨1, 0, none⟩) [(.int .i64 1), (.int .i64 2), (.int .i64 2)] w) : Spec Tryd.prog 107 #[(.int .i64 i_), (.int .i64 k_)] B w [] (fun v H' => v = .int .i64 (descAt i_ k_) ∧ H' = []) := by
  refine spec_Q Tryd.func107 rfl fun hs => ?_
  refine W.seq fun K1 hK1 => ?_
  refine W.region ?_
  refine ops_run 1 (by kernel_rfl) ?_
  refine ops_done (by kernel_rfl) ?_
  refine hK1 _ _ ?_
  clear hK1
  refine W.seq fun K2 hK2 => ?_
  refine W.region ?_
  refine ops_run 2 (by kernel_rfl) ?_
  refine ops_call0 hs (by kernel_rfl) (descAt_part (i_ := i_) (k_ := k_) (hL := (hs.oldCells hL)) B _) ?_
  rintro _ _ w3 ⟨rfl, rfl⟩ hs4
  have hs5 := St.ap0 hs4
  refine ops_run 1 (by kernel_rfl) ?_
  refine ops_done (by kernel_rfl) ?_
  refine hK2 _ _ ?_
  clear hK2
  refine W.ret ?_
  refine ret_of (.int .i64 (descAt i_ k_)) (by kernel_rfl) ⟨_, ⟨rfl, rfl⟩, hs5⟩

set_option maxRecDepth 20000 in
theorem rslotat_spec {i_ k_ : Int} (B : Nat) (w : World) : Spec Tryd.prog 52 #[(.int .i64 i_), (.int .i64 k_)] B w [] (fun v H' => v = .int .i64 (slotAt i_ k_) ∧ H' = []) := by
  refine spec_Q Tryd.func52 rfl fun hs => ?_
  refine W.seq fun K1 hK1 => ?_
  refine W.region ?_
  refine ops_run 1 (by kernel_rfl) ?_
  refine ops_done (by kernel_rfl) ?_
  refine hK1 _ _ ?_
  clear hK1
  refine W.seq fun K2 hK2 => ?_
  refine W.seq fun K3 hK3 => ?_
  refine W.region ?_
  refine ops_run 1 (by kernel_rfl) ?_
  refine ops_call0 hs (by kernel_rfl) (rsess_spec (i_ := i_) B _) ?_
  rintro _ _ w4 ⟨rfl, rfl⟩ hs5
  have hs6 := St.ap0 hs5
  refine ops_run 2 (by kernel_rfl) ?_
  rcases Bool.eq_false_or_eq_true (decide ((sessAt i_) < 0)) with h7 | h7
  ·
    have h7p : (sessAt i_) < 0 := of_decide_eq_true h7
    refine ops_set 8 (v := .bool true) (eq_bool_of (by kernel_rfl) h7) ?_
    refine ops_set 7 (v := .bool true) (eq_bool_of (by kernel_rfl) h7) ?_
    refine ops_run 7 (by kernel_rfl) ?_
    refine ops_done (by kernel_rfl) ?_
    refine hK3 _ _ ?_
    clear hK3
    refine W.cond_true true (by kernel_rfl) rfl ?_
    refine W.seq fun K8 hK8 => ?_
    refine W.region ?_
    refine ops_run 1 (by kernel_rfl) ?_
    refine ops_done (by kernel_rfl) ?_
    refine hK8 _ _ ?_
    clear hK8
    refine W.ret (ret_seq ?_)
    refine ret_of (.int .i64 (-1)) (by kernel_rfl) ⟨_, ⟨congrArg (Value.int .i64) (by have hse_ := sess_range i_; unfold slotAt; split <;> omega), rfl⟩, hs6⟩
  ·
    have h7p : ¬ ((sessAt i_) < 0) := of_decide_eq_false h7
    refine ops_set 8 (v := .bool false) (eq_bool_of (by kernel_rfl) h7) ?_
    refine ops_set 7 (v := .bool false) (eq_bool_of (by kernel_rfl) h7) ?_
    refine ops_run 4 (by kernel_rfl) ?_
    rcases Bool.eq_false_or_eq_true (decide (k_ < 0)) with h9 | h9
    ·
      have h9p : k_ < 0 := of_decide_eq_true h9
      refine ops_set 12 (v := .bool true) (eq_bool_of (by kernel_rfl) h9) ?_
      refine ops_set 10 (v := .bool true) (eq_bool_of (by kernel_rfl) h9) ?_
      refine ops_set 11 (v := .bool true) (eq_bool_of (by kernel_rfl) h9) ?_
      refine ops_run 3 (by kernel_rfl) ?_
      refine ops_done (by kernel_rfl) ?_
      refine hK3 _ _ ?_
      clear hK3
      refine W.cond_true true (by kernel_rfl) rfl ?_
      refine W.seq fun K10 hK10 => ?_
      refine W.region ?_
      refine ops_run 1 (by kernel_rfl) ?_
      refine ops_done (by kernel_rfl) ?_
      refine hK10 _ _ ?_
      clear hK10
      refine W.ret (ret_seq ?_)
      refine ret_of (.int .i64 (-1)) (by kernel_rfl) ⟨_, ⟨congrArg (Value.int .i64) (by have hse_ := sess_range i_; unfold slotAt; split <;> omega), rfl⟩, hs6⟩
    ·
      have h9p : ¬ (k_ < 0) := of_decide_eq_false h9
      refine ops_set 12 (v := .bool false) (eq_bool_of (by kernel_rfl) h9) ?_
      refine ops_set 10 (v := .bool false) (eq_bool_of (by kernel_rfl) h9) ?_
      refine ops_set 11 (v := .bool false) (eq_bool_of (by kernel_rfl) h9) ?_
      refine ops_run 3 (by kernel_rfl) ?_
      refine ops_done (by kernel_rfl) ?_
      refine hK3 _ _ ?_
      clear hK3
      refine W.cond (decide (k_ ≥ 4)) (by kernel_rfl) (fun h11 => ?_) (fun h11 => ?_)
      ·
        have h11p : k_ ≥ 4 := of_decide_eq_true h11
        refine W.seq fun K12 hK12 => ?_
        refine W.region ?_
        refine ops_run 1 (by kernel_rfl) ?_
        refine ops_done (by kernel_rfl) ?_
        refine hK12 _ _ ?_
        clear hK12
        refine W.ret (ret_seq ?_)
        refine ret_of (.int .i64 (-1)) (by kernel_rfl) ⟨_, ⟨congrArg (Value.int .i64) (by have hse_ := sess_range i_; unfold slotAt; split <;> omega), rfl⟩, hs6⟩
      ·
        have h11p : ¬ (k_ ≥ 4) := of_decide_eq_false h11
        refine W.skip ?_
        refine hK2 _ _ ?_
        clear hK2
        refine W.seq fun K13 hK13 => ?_
        refine W.region ?_
        refine ops_run 1 (by kernel_rfl) ?_
        refine ops_call0 hs6 (by kernel_rfl) (rsess_spec (i_ := i_) B _) ?_
        rintro _ _ w14 ⟨rfl, rfl⟩ hs15
        have hs16 := St.ap0 hs15
        have h17 : -9223372036854775808 ≤ ((sessAt i_) + 8) ∧ ((sessAt i_) + 8) ≤ 9223372036854775807 := by (have hse_ := sess_range i_; omega)
        refine ops_val (v := .int .i64 (IntKind.i64.wrap ((sessAt i_) + 8))) (v' := .int .i64 ((sessAt i_) + 8)) (by kernel_rfl) (congrArg (Value.int .i64) (wrap_i64 h17.1 h17.2)) ?_
        refine ops_run 1 (by kernel_rfl) ?_
        have h18 : -9223372036854775808 ≤ (12 * k_) ∧ (12 * k_) ≤ 9223372036854775807 := by (have hse_ := sess_range i_; omega)
        refine ops_val (v := .int .i64 (IntKind.i64.wrap (12 * k_))) (v' := .int .i64 (12 * k_)) (by kernel_rfl) (congrArg (Value.int .i64) (wrap_i64 h18.1 h18.2)) ?_
        have h19 : -9223372036854775808 ≤ (((sessAt i_) + 8) + (12 * k_)) ∧ (((sessAt i_) + 8) + (12 * k_)) ≤ 9223372036854775807 := by (have hse_ := sess_range i_; omega)
        refine ops_val (v := .int .i64 (IntKind.i64.wrap (((sessAt i_) + 8) + (12 * k_)))) (v' := .int .i64 (((sessAt i_) + 8) + (12 * k_))) (by kernel_rfl) (congrArg (Value.int .i64) (wrap_i64 h19.1 h19.2)) ?_
        refine ops_run 1 (by kernel_rfl) ?_
        refine ops_done (by kernel_rfl) ?_
        refine hK13 _ _ ?_
        clear hK13
        refine W.ret ?_
        refine ret_of (.int .i64 (((sessAt i_) + 8) + (12 * k_))) (by kernel_rfl) ⟨_, ⟨congrArg (Value.int .i64) (by have hse_ := sess_range i_; unfold slotAt; split <;> omega), rfl⟩, hs16⟩

set_option maxRecDepth 20000 in
theorem rdescat_spec {i_ k_ : Int} (B : Nat) (w : World) : Spec Tryd.prog 113 #[(.int .i64 i_), (.int .i64 k_)] B w [] (fun v H' => v = .int .i64 (descAt i_ k_) ∧ H' = []) := by
  refine spec_Q Tryd.func113 rfl fun hs => ?_
  refine W.seq fun K1 hK1 => ?_
  refine W.region ?_
  refine ops_run 1 (by kernel_rfl) ?_
  refine ops_done (by kernel_rfl) ?_
  refine hK1 _ _ ?_
  clear hK1
  refine W.seq fun K2 hK2 => ?_
  refine W.seq fun K3 hK3 => ?_
  refine W.region ?_
  refine ops_run 1 (by kernel_rfl) ?_
  refine ops_call0 hs (by kernel_rfl) (rsess_spec (i_ := i_) B _) ?_
  rintro _ _ w4 ⟨rfl, rfl⟩ hs5
  have hs6 := St.ap0 hs5
  refine ops_run 2 (by kernel_rfl) ?_
  rcases Bool.eq_false_or_eq_true (decide ((sessAt i_) < 0)) with h7 | h7
  ·
    have h7p : (sessAt i_) < 0 := of_decide_eq_true h7
    refine ops_set 8 (v := .bool true) (eq_bool_of (by kernel_rfl) h7) ?_
    refine ops_set 7 (v := .bool true) (eq_bool_of (by kernel_rfl) h7) ?_
    refine ops_run 7 (by kernel_rfl) ?_
    refine ops_done (by kernel_rfl) ?_
    refine hK3 _ _ ?_
    clear hK3
    refine W.cond_true true (by kernel_rfl) rfl ?_
    refine W.seq fun K8 hK8 => ?_
    refine W.region ?_
    refine ops_run 1 (by kernel_rfl) ?_
    refine ops_done (by kernel_rfl) ?_
    refine hK8 _ _ ?_
    clear hK8
    refine W.ret (ret_seq ?_)
    refine ret_of (.int .i64 (-1)) (by kernel_rfl) ⟨_, ⟨congrArg (Value.int .i64) (by have hse_ := sess_range i_; unfold descAt; split <;> omega), rfl⟩, hs6⟩
  ·
    have h7p : ¬ ((sessAt i_) < 0) := of_decide_eq_false h7
    refine ops_set 8 (v := .bool false) (eq_bool_of (by kernel_rfl) h7) ?_
    refine ops_set 7 (v := .bool false) (eq_bool_of (by kernel_rfl) h7) ?_
    refine ops_run 4 (by kernel_rfl) ?_
    rcases Bool.eq_false_or_eq_true (decide (k_ < 0)) with h9 | h9
    ·
      have h9p : k_ < 0 := of_decide_eq_true h9
      refine ops_set 12 (v := .bool true) (eq_bool_of (by kernel_rfl) h9) ?_
      refine ops_set 10 (v := .bool true) (eq_bool_of (by kernel_rfl) h9) ?_
      refine ops_set 11 (v := .bool true) (eq_bool_of (by kernel_rfl) h9) ?_
      refine ops_run 3 (by kernel_rfl) ?_
      refine ops_done (by kernel_rfl) ?_
      refine hK3 _ _ ?_
      clear hK3
      refine W.cond_true true (by kernel_rfl) rfl ?_
      refine W.seq fun K10 hK10 => ?_
      refine W.region ?_
      refine ops_run 1 (by kernel_rfl) ?_
      refine ops_done (by kernel_rfl) ?_
      refine hK10 _ _ ?_
      clear hK10
      refine W.ret (ret_seq ?_)
      refine ret_of (.int .i64 (-1)) (by kernel_rfl) ⟨_, ⟨congrArg (Value.int .i64) (by have hse_ := sess_range i_; unfold descAt; split <;> omega), rfl⟩, hs6⟩
    ·
      have h9p : ¬ (k_ < 0) := of_decide_eq_false h9
      refine ops_set 12 (v := .bool false) (eq_bool_of (by kernel_rfl) h9) ?_
      refine ops_set 10 (v := .bool false) (eq_bool_of (by kernel_rfl) h9) ?_
      refine ops_set 11 (v := .bool false) (eq_bool_of (by kernel_rfl) h9) ?_
      refine ops_run 3 (by kernel_rfl) ?_
      refine ops_done (by kernel_rfl) ?_
      refine hK3 _ _ ?_
      clear hK3
      refine W.cond (decide (k_ ≥ 4)) (by kernel_rfl) (fun h11 => ?_) (fun h11 => ?_)
      ·
        have h11p : k_ ≥ 4 := of_decide_eq_true h11
        refine W.seq fun K12 hK12 => ?_
        refine W.region ?_
        refine ops_run 1 (by kernel_rfl) ?_
        refine ops_done (by kernel_rfl) ?_
        refine hK12 _ _ ?_
        clear hK12
        refine W.ret (ret_seq ?_)
        refine ret_of (.int .i64 (-1)) (by kernel_rfl) ⟨_, ⟨congrArg (Value.int .i64) (by have hse_ := sess_range i_; unfold descAt; split <;> omega), rfl⟩, hs6⟩
      ·
        have h11p : ¬ (k_ ≥ 4) := of_decide_eq_false h11
        refine W.skip ?_
        refine hK2 _ _ ?_
        clear hK2
        refine W.seq fun K13 hK13 => ?_
        refine W.region ?_
        refine ops_run 1 (by kernel_rfl) ?_
        refine ops_call0 hs6 (by kernel_rfl) (rsess_spec (i_ := i_) B _) ?_
        rintro _ _ w14 ⟨rfl, rfl⟩ hs15
        have hs16 := St.ap0 hs15
        have h17 : -9223372036854775808 ≤ ((sessAt i_) + 8) ∧ ((sessAt i_) + 8) ≤ 9223372036854775807 := by (have hse_ := sess_range i_; omega)
        refine ops_val (v := .int .i64 (IntKind.i64.wrap ((sessAt i_) + 8))) (v' := .int .i64 ((sessAt i_) + 8)) (by kernel_rfl) (congrArg (Value.int .i64) (wrap_i64 h17.1 h17.2)) ?_
        have h18 : -9223372036854775808 ≤ (((sessAt i_) + 8) + 48) ∧ (((sessAt i_) + 8) + 48) ≤ 9223372036854775807 := by (have hse_ := sess_range i_; omega)
        refine ops_val (v := .int .i64 (IntKind.i64.wrap (((sessAt i_) + 8) + 48))) (v' := .int .i64 (((sessAt i_) + 8) + 48)) (by kernel_rfl) (congrArg (Value.int .i64) (wrap_i64 h18.1 h18.2)) ?_
        refine ops_run 1 (by kernel_rfl) ?_
        have h19 : -9223372036854775808 ≤ (2 * k_) ∧ (2 * k_) ≤ 9223372036854775807 := by (have hse_ := sess_range i_; omega)
        refine ops_val (v := .int .i64 (IntKind.i64.wrap (2 * k_))) (v' := .int .i64 (2 * k_)) (by kernel_rfl) (congrArg (Value.int .i64) (wrap_i64 h19.1 h19.2)) ?_
        have h20 : -9223372036854775808 ≤ ((((sessAt i_) + 8) + 48) + (2 * k_)) ∧ ((((sessAt i_) + 8) + 48) + (2 * k_)) ≤ 9223372036854775807 := by (have hse_ := sess_range i_; omega)
        refine ops_val (v := .int .i64 (IntKind.i64.wrap ((((sessAt i_) + 8) + 48) + (2 * k_)))) (v' := .int .i64 ((((sessAt i_) + 8) + 48) + (2 * k_))) (by kernel_rfl) (congrArg (Value.int .i64) (wrap_i64 h20.1 h20.2)) ?_
        refine ops_run 1 (by kernel_rfl) ?_
        refine ops_done (by kernel_rfl) ?_
        refine hK13 _ _ ?_
        clear hK13
        refine W.ret ?_
        refine ret_of (.int .i64 ((((sessAt i_) + 8) + 48) + (2 * k_))) (by kernel_rfl) ⟨_, ⟨congrArg (Value.int .i64) (by have hse_ := sess_range i_; unfold descAt; split <;> omega), rfl⟩, hs16⟩

end Go.Proofs.YthimamnblklkbaaDoor

/- Contracts of slot and its reference. -/
namespace Go.Proofs.YthimamnblklkbaaDoor
open Go Go.RowKit
set_option linter.unusedSimpArgs false
set_option linter.unusedVariables false

set_option maxRecDepth 20000 in
theorem sset_spec {b : Nat} {img : List Int} {l : List (Int × Int)} {at_ x_ : Int} (B : Nat) (w : World) : Spec Tryd.prog 35 #[(.pointer (some ⟨b, 0, none⟩)), (.int .i64 at_), (.int .u64 x_)] B w [viewA (ptr b) img l] (fun v H' => v = .int .i64 (vwrite img l at_ x_).1 ∧ H' = [viewA (ptr b) img (vwrite img l at_ x_).2]) := by
  refine spec_W Tryd.func35 rfl fun l0 hs => ?_
  refine W.seq fun K1 hK1 => ?_
  refine W.region ?_
  refine ops_run 1 (by kernel_rfl) ?_
  refine ops_done (by kernel_rfl) ?_
  refine hK1 _ _ ?_
  clear hK1
  refine W.seq fun K2 hK2 => ?_
  refine W.block ?_
  refine W.seq fun K3 hK3 => ?_
  refine W.region ?_
  refine ops_run 3 (by kernel_rfl) ?_
  refine ops_done (by kernel_rfl) ?_
  refine hK3 _ _ ?_
  clear hK3
  refine W.cond_false false (by kernel_rfl) rfl ?_
  refine W.seq fun K4 hK4 => ?_
  refine W.seq fun K5 hK5 => ?_
  refine W.region ?_
  refine ops_run 3 (by kernel_rfl) ?_
  refine ops_done (by kernel_rfl) ?_
  refine hK5 _ _ ?_
  clear hK5
  refine W.cond (decide (at_ < 0)) (by kernel_rfl) (fun h6 => ?_) (fun h6 => ?_)
  ·
    have h6p : at_ < 0 := of_decide_eq_true h6
    refine W.skip ?_
    refine hK4 _ _ ?_
    clear hK4
    refine W.cond (decide (at_ < 0)) (by kernel_rfl) (fun h7 => ?_) (fun h7 => ?_)
    ·
      have h7p : at_ < 0 := of_decide_eq_true h7
      refine W.seq fun K8 hK8 => ?_
      refine W.region ?_
      refine ops_run 1 (by kernel_rfl) ?_
      refine ops_done (by kernel_rfl) ?_
      refine hK8 _ _ ?_
      clear hK8
      refine W.ret (ret_block (ret_seq ?_))
      have e1_ : (vwrite img l at_ x_).1 = 8 := by first | (exfalso; omega) | (simp only [vwrite]; rw [if_pos (by omega)]) | (simp only [vwrite]; rw [if_neg (by omega), if_pos (by assumption)]) | (simp only [vwrite]; rw [if_neg (by omega), if_neg (by assumption)])
      have e2_ : (vwrite img l at_ x_).2 = l := by first | (exfalso; omega) | (simp only [vwrite]; rw [if_pos (by omega)]) | (simp only [vwrite]; rw [if_neg (by omega), if_pos (by assumption)]) | (simp only [vwrite]; rw [if_neg (by omega), if_neg (by assumption)])
      refine ret_of (.int .i64 8) (by kernel_rfl) ⟨_, ⟨by rw [e1_], by rw [e2_]⟩, hs⟩
    ·
      have h7p : ¬ (at_ < 0) := of_decide_eq_false h7
      refine W.seq fun K9 hK9 => ?_
      refine W.region ?_
      refine ops_run 2 (by kernel_rfl) ?_
      refine ops_call0 hs (by kernel_rfl) (get_spec (at_ := at_) (hv := (hs.entAt 0 rfl viewA_at)) B _) ?_
      rintro _ _ w10 ⟨rfl, rfl⟩ hs11
      have hs12 := St.ap0 hs11
      refine ops_run 3 (by kernel_rfl) ?_
      refine ops_done (by kernel_rfl) ?_
      refine hK9 _ _ ?_
      clear hK9
      refine W.cond (decide ((vget img l at_) = x_)) (by kernel_rfl) (fun h13 => ?_) (fun h13 => ?_)
      ·
        have h13p : (vget img l at_) = x_ := of_decide_eq_true h13
        refine W.seq fun K14 hK14 => ?_
        refine W.region ?_
        refine ops_run 1 (by kernel_rfl) ?_
        refine ops_done (by kernel_rfl) ?_
        refine hK14 _ _ ?_
        clear hK14
        refine W.ret (ret_block (ret_seq ?_))
        have e1_ : (vwrite img l at_ x_).1 = 0 := by first | (exfalso; omega) | (simp only [vwrite]; rw [if_pos (by omega)]) | (simp only [vwrite]; rw [if_neg (by omega), if_pos (by assumption)]) | (simp only [vwrite]; rw [if_neg (by omega), if_neg (by assumption)])
        have e2_ : (vwrite img l at_ x_).2 = l := by first | (exfalso; omega) | (simp only [vwrite]; rw [if_pos (by omega)]) | (simp only [vwrite]; rw [if_neg (by omega), if_pos (by assumption)]) | (simp only [vwrite]; rw [if_neg (by omega), if_neg (by assumption)])
        refine ret_of (.int .i64 0) (by kernel_rfl) ⟨_, ⟨by rw [e1_], by rw [e2_]⟩, hs12⟩
      ·
        have h13p : ¬ ((vget img l at_) = x_) := of_decide_eq_false h13
        refine W.skip ?_
        refine normal_block ?_
        refine hK2 _ _ ?_
        clear hK2
        refine W.seq fun K15 hK15 => ?_
        refine W.region ?_
        refine ops_run 3 (by kernel_rfl) ?_
        refine ops_call1 hs12 (by kernel_rfl) (put_spec (p := (.pointer (some ⟨b, 0, none⟩))) (img := img) (l := l) (at_ := at_) (x_ := x_) B _) ?_
        rintro _ _ w16 ⟨rfl, rfl⟩ hs17
        have hs18 := St.ap1 hs17
        refine ops_run 1 (by kernel_rfl) ?_
        refine ops_done (by kernel_rfl) ?_
        refine hK15 _ _ ?_
        clear hK15
        refine W.ret ?_
        have e1_ : (vwrite img l at_ x_).1 = (vput img l at_ x_).1 := by first | (exfalso; omega) | (simp only [vwrite]; rw [if_pos (by omega)]) | (simp only [vwrite]; rw [if_neg (by omega), if_pos (by assumption)]) | (simp only [vwrite]; rw [if_neg (by omega), if_neg (by assumption)])
        have e2_ : (vwrite img l at_ x_).2 = (vput img l at_ x_).2 := by first | (exfalso; omega) | (simp only [vwrite]; rw [if_pos (by omega)]) | (simp only [vwrite]; rw [if_neg (by omega), if_pos (by assumption)]) | (simp only [vwrite]; rw [if_neg (by omega), if_neg (by assumption)])
        refine ret_of (.int .i64 ((vput img l at_ x_).1)) (by kernel_rfl) ⟨_, ⟨by rw [e1_], by rw [e2_]⟩, hs18⟩
  ·
    have h6p : ¬ (at_ < 0) := of_decide_eq_false h6
    refine W.region ?_
    refine ops_run 2 (by kernel_rfl) ?_
    refine ops_call0 hs (by kernel_rfl) (len_spec (hv := (hs.entAt 0 rfl viewA_at)) B _) ?_
    rintro _ _ w19 ⟨rfl, rfl⟩ hs20
    have hs21 := St.ap0 hs20
    refine ops_run 2 (by kernel_rfl) ?_
    refine ops_done (by kernel_rfl) ?_
    refine hK4 _ _ ?_
    clear hK4
    refine W.cond (decide (at_ ≥ (img.length : Int))) (by kernel_rfl) (fun h22 => ?_) (fun h22 => ?_)
    ·
      have h22p : at_ ≥ (img.length : Int) := of_decide_eq_true h22
      refine W.seq fun K23 hK23 => ?_
      refine W.region ?_
      refine ops_run 1 (by kernel_rfl) ?_
      refine ops_done (by kernel_rfl) ?_
      refine hK23 _ _ ?_
      clear hK23
      refine W.ret (ret_block (ret_seq ?_))
      have e1_ : (vwrite img l at_ x_).1 = 8 := by first | (exfalso; omega) | (simp only [vwrite]; rw [if_pos (by omega)]) | (simp only [vwrite]; rw [if_neg (by omega), if_pos (by assumption)]) | (simp only [vwrite]; rw [if_neg (by omega), if_neg (by assumption)])
      have e2_ : (vwrite img l at_ x_).2 = l := by first | (exfalso; omega) | (simp only [vwrite]; rw [if_pos (by omega)]) | (simp only [vwrite]; rw [if_neg (by omega), if_pos (by assumption)]) | (simp only [vwrite]; rw [if_neg (by omega), if_neg (by assumption)])
      refine ret_of (.int .i64 8) (by kernel_rfl) ⟨_, ⟨by rw [e1_], by rw [e2_]⟩, hs21⟩
    ·
      have h22p : ¬ (at_ ≥ (img.length : Int)) := of_decide_eq_false h22
      refine W.seq fun K24 hK24 => ?_
      refine W.region ?_
      refine ops_run 2 (by kernel_rfl) ?_
      refine ops_call0 hs21 (by kernel_rfl) (get_spec (at_ := at_) (hv := (hs21.entAt 0 rfl viewA_at)) B _) ?_
      rintro _ _ w25 ⟨rfl, rfl⟩ hs26
      have hs27 := St.ap0 hs26
      refine ops_run 3 (by kernel_rfl) ?_
      refine ops_done (by kernel_rfl) ?_
      refine hK24 _ _ ?_
      clear hK24
      refine W.cond (decide ((vget img l at_) = x_)) (by kernel_rfl) (fun h28 => ?_) (fun h28 => ?_)
      ·
        have h28p : (vget img l at_) = x_ := of_decide_eq_true h28
        refine W.seq fun K29 hK29 => ?_
        refine W.region ?_
        refine ops_run 1 (by kernel_rfl) ?_
        refine ops_done (by kernel_rfl) ?_
        refine hK29 _ _ ?_
        clear hK29
        refine W.ret (ret_block (ret_seq ?_))
        have e1_ : (vwrite img l at_ x_).1 = 0 := by first | (exfalso; omega) | (simp only [vwrite]; rw [if_pos (by omega)]) | (simp only [vwrite]; rw [if_neg (by omega), if_pos (by assumption)]) | (simp only [vwrite]; rw [if_neg (by omega), if_neg (by assumption)])
        have e2_ : (vwrite img l at_ x_).2 = l := by first | (exfalso; omega) | (simp only [vwrite]; rw [if_pos (by omega)]) | (simp only [vwrite]; rw [if_neg (by omega), if_pos (by assumption)]) | (simp only [vwrite]; rw [if_neg (by omega), if_neg (by assumption)])
        refine ret_of (.int .i64 0) (by kernel_rfl) ⟨_, ⟨by rw [e1_], by rw [e2_]⟩, hs27⟩
      ·
        have h28p : ¬ ((vget img l at_) = x_) := of_decide_eq_false h28
        refine W.skip ?_
        refine normal_block ?_
        refine hK2 _ _ ?_
        clear hK2
        refine W.seq fun K30 hK30 => ?_
        refine W.region ?_
        refine ops_run 3 (by kernel_rfl) ?_
        refine ops_call1 hs27 (by kernel_rfl) (put_spec (p := (.pointer (some ⟨b, 0, none⟩))) (img := img) (l := l) (at_ := at_) (x_ := x_) B _) ?_
        rintro _ _ w31 ⟨rfl, rfl⟩ hs32
        have hs33 := St.ap1 hs32
        refine ops_run 1 (by kernel_rfl) ?_
        refine ops_done (by kernel_rfl) ?_
        refine hK30 _ _ ?_
        clear hK30
        refine W.ret ?_
        have e1_ : (vwrite img l at_ x_).1 = (vput img l at_ x_).1 := by first | (exfalso; omega) | (simp only [vwrite]; rw [if_pos (by omega)]) | (simp only [vwrite]; rw [if_neg (by omega), if_pos (by assumption)]) | (simp only [vwrite]; rw [if_neg (by omega), if_neg (by assumption)])
        have e2_ : (vwrite img l at_ x_).2 = (vput img l at_ x_).2 := by first | (exfalso; omega) | (simp only [vwrite]; rw [if_pos (by omega)]) | (simp only [vwrite]; rw [if_neg (by omega), if_pos (by assumption)]) | (simp only [vwrite]; rw [if_neg (by omega), if_neg (by assumption)])
        refine ret_of (.int .i64 ((vput img l at_ x_).1)) (by kernel_rfl) ⟨_, ⟨by rw [e1_], by rw [e2_]⟩, hs33⟩

set_option maxRecDepth 20000 in
theorem sset_spec_nil {at_ x_ : Int} (B : Nat) (w : World) : Spec Tryd.prog 35 #[(.pointer none), (.int .i64 at_), (.int .u64 x_)] B w [] (fun v H' => v = .int .i64 2 ∧ H' = []) := by
  refine spec_Q Tryd.func35 rfl fun hs => ?_
  refine W.seq fun K1 hK1 => ?_
  refine W.region ?_
  refine ops_run 1 (by kernel_rfl) ?_
  refine ops_done (by kernel_rfl) ?_
  refine hK1 _ _ ?_
  clear hK1
  refine W.seq fun K2 hK2 => ?_
  refine W.block ?_
  refine W.seq fun K3 hK3 => ?_
  refine W.region ?_
  refine ops_run 3 (by kernel_rfl) ?_
  refine ops_done (by kernel_rfl) ?_
  refine hK3 _ _ ?_
  clear hK3
  refine W.cond_true true (by kernel_rfl) rfl ?_
  refine W.seq fun K4 hK4 => ?_
  refine W.region ?_
  refine ops_run 1 (by kernel_rfl) ?_
  refine ops_done (by kernel_rfl) ?_
  refine hK4 _ _ ?_
  clear hK4
  refine W.ret (ret_block (ret_seq ?_))
  refine ret_of (.int .i64 2) (by kernel_rfl) ⟨_, ⟨rfl, rfl⟩, hs⟩

set_option maxRecDepth 20000 in
theorem rset_spec {b : Nat} {img : List Int} {l : List (Int × Int)} {at_ x_ : Int} (B : Nat) (w : World) : Spec Tryd.prog 49 #[(.pointer (some ⟨b, 0, none⟩)), (.int .i64 at_), (.int .u64 x_)] B w [refA (ptr b) img l] (fun v H' => v = .int .i64 (vwrite img l at_ x_).1 ∧ H' = [refA (ptr b) img (vwrite img l at_ x_).2]) := by
  refine spec_W Tryd.func49 rfl fun l0 hs => ?_
  refine W.seq fun K1 hK1 => ?_
  refine W.region ?_
  refine ops_run 1 (by kernel_rfl) ?_
  refine ops_done (by kernel_rfl) ?_
  refine hK1 _ _ ?_
  clear hK1
  refine W.seq fun K2 hK2 => ?_
  refine W.seq fun K3 hK3 => ?_
  obtain ⟨⟨_, ia4, ic5, la6, lc7, mn8⟩, ⟨ex9, hok10⟩, hs11⟩ := St.open hs
  have hs12 : St B w l0 w [blk b (.cells [(.slice ia4 img.length ic5), (.slice la6 l.length lc7), (.bool mn8)].toArray 71 (0, 0)), kU64.row ia4 ic5 img, kWr.row la6 lc7 l] := by cases ex9; exact hs11
  have := hok10.many
  refine W.region ?_
  refine ops_run 3 (by kernel_rfl) ?_
  rcases Bool.eq_false_or_eq_true (decide (at_ < 0)) with h13 | h13
  ·
    have h13p : at_ < 0 := of_decide_eq_true h13
    refine ops_set 9 (v := .bool true) (eq_bool_of (by kernel_rfl) h13) ?_
    refine ops_set 8 (v := .bool true) (eq_bool_of (by kernel_rfl) h13) ?_
    refine ops_run 8 (by kernel_rfl) ?_
    refine ops_done (by kernel_rfl) ?_
    have hs14 : St B w l0 w [refA (ptr b) img l] := ref_close (l := l) (ia := ia4) (ic := ic5) (la := la6) (lc := lc7) (many := mn8) hok10 hs12
    refine hK3 _ _ ?_
    clear hK3
    refine W.cond_true true (by kernel_rfl) rfl ?_
    refine W.seq fun K15 hK15 => ?_
    refine W.region ?_
    refine ops_run 1 (by kernel_rfl) ?_
    refine ops_done (by kernel_rfl) ?_
    refine hK15 _ _ ?_
    clear hK15
    refine W.ret (ret_seq ?_)
    have e1_ : (vwrite img l at_ x_).1 = 8 := by first | (exfalso; omega) | (simp only [vwrite]; rw [if_pos (by omega)]) | (simp only [vwrite]; rw [if_neg (by omega), if_pos (by assumption)]) | (simp only [vwrite]; rw [if_neg (by omega), if_neg (by assumption)])
    have e2_ : (vwrite img l at_ x_).2 = l := by first | (exfalso; omega) | (simp only [vwrite]; rw [if_pos (by omega)]) | (simp only [vwrite]; rw [if_neg (by omega), if_pos (by assumption)]) | (simp only [vwrite]; rw [if_neg (by omega), if_neg (by assumption)])
    refine ret_of (.int .i64 8) (by kernel_rfl) ⟨_, ⟨by rw [e1_], by rw [e2_]⟩, hs14⟩
  ·
    have h13p : ¬ (at_ < 0) := of_decide_eq_false h13
    refine ops_set 9 (v := .bool false) (eq_bool_of (by kernel_rfl) h13) ?_
    refine ops_set 8 (v := .bool false) (eq_bool_of (by kernel_rfl) h13) ?_
    refine ops_run 4 (by kernel_rfl) ?_
    refine ops_R (runs_load (ad := ⟨b, 0, none⟩) (v := (.slice ia4 img.length ic5)) (by kernel_rfl) (hs12.cellAt 0 rfl rfl)) ?_
    refine ops_run 3 (by kernel_rfl) ?_
    refine ops_done (by kernel_rfl) ?_
    have hs16 : St B w l0 w [refA (ptr b) img l] := ref_close (l := l) (ia := ia4) (ic := ic5) (la := la6) (lc := lc7) (many := mn8) hok10 hs12
    refine hK3 _ _ ?_
    clear hK3
    refine W.cond (decide (at_ ≥ (img.length : Int))) (by kernel_rfl) (fun h17 => ?_) (fun h17 => ?_)
    ·
      have h17p : at_ ≥ (img.length : Int) := of_decide_eq_true h17
      refine W.seq fun K18 hK18 => ?_
      refine W.region ?_
      refine ops_run 1 (by kernel_rfl) ?_
      refine ops_done (by kernel_rfl) ?_
      refine hK18 _ _ ?_
      clear hK18
      refine W.ret (ret_seq ?_)
      have e1_ : (vwrite img l at_ x_).1 = 8 := by first | (exfalso; omega) | (simp only [vwrite]; rw [if_pos (by omega)]) | (simp only [vwrite]; rw [if_neg (by omega), if_pos (by assumption)]) | (simp only [vwrite]; rw [if_neg (by omega), if_neg (by assumption)])
      have e2_ : (vwrite img l at_ x_).2 = l := by first | (exfalso; omega) | (simp only [vwrite]; rw [if_pos (by omega)]) | (simp only [vwrite]; rw [if_neg (by omega), if_pos (by assumption)]) | (simp only [vwrite]; rw [if_neg (by omega), if_neg (by assumption)])
      refine ret_of (.int .i64 8) (by kernel_rfl) ⟨_, ⟨by rw [e1_], by rw [e2_]⟩, hs16⟩
    ·
      have h17p : ¬ (at_ ≥ (img.length : Int)) := of_decide_eq_false h17
      refine W.skip ?_
      refine hK2 _ _ ?_
      clear hK2
      refine W.seq fun K19 hK19 => ?_
      refine W.seq fun K20 hK20 => ?_
      refine W.region ?_
      refine ops_run 2 (by kernel_rfl) ?_
      refine ops_call0 hs16 (by kernel_rfl) (rget_spec (at_ := at_) (hv := (hs16.entAt 0 rfl refA_at)) B _) ?_
      rintro _ _ w21 ⟨rfl, rfl⟩ hs22
      have hs23 := St.ap0 hs22
      refine ops_run 2 (by kernel_rfl) ?_
      refine ops_done (by kernel_rfl) ?_
      refine hK20 _ _ ?_
      clear hK20
      refine W.cond (decide ((vget img l at_) = x_)) (by kernel_rfl) (fun h24 => ?_) (fun h24 => ?_)
      ·
        have h24p : (vget img l at_) = x_ := of_decide_eq_true h24
        refine W.seq fun K25 hK25 => ?_
        refine W.region ?_
        refine ops_run 1 (by kernel_rfl) ?_
        refine ops_done (by kernel_rfl) ?_
        refine hK25 _ _ ?_
        clear hK25
        refine W.ret (ret_seq ?_)
        have e1_ : (vwrite img l at_ x_).1 = 0 := by first | (exfalso; omega) | (simp only [vwrite]; rw [if_pos (by omega)]) | (simp only [vwrite]; rw [if_neg (by omega), if_pos (by assumption)]) | (simp only [vwrite]; rw [if_neg (by omega), if_neg (by assumption)])
        have e2_ : (vwrite img l at_ x_).2 = l := by first | (exfalso; omega) | (simp only [vwrite]; rw [if_pos (by omega)]) | (simp only [vwrite]; rw [if_neg (by omega), if_pos (by assumption)]) | (simp only [vwrite]; rw [if_neg (by omega), if_neg (by assumption)])
        refine ret_of (.int .i64 0) (by kernel_rfl) ⟨_, ⟨by rw [e1_], by rw [e2_]⟩, hs23⟩
      ·
        have h24p : ¬ ((vget img l at_) = x_) := of_decide_eq_false h24
        refine W.skip ?_
        refine hK19 _ _ ?_
        clear hK19
        refine W.seq fun K26 hK26 => ?_
        refine W.region ?_
        refine ops_run 3 (by kernel_rfl) ?_
        refine ops_call1 hs23 (by kernel_rfl) (rput_spec (p := (.pointer (some ⟨b, 0, none⟩))) (img := img) (l := l) (at_ := at_) (x_ := x_) B _) ?_
        rintro _ _ w27 ⟨rfl, rfl⟩ hs28
        have hs29 := St.ap1 hs28
        refine ops_run 1 (by kernel_rfl) ?_
        refine ops_done (by kernel_rfl) ?_
        refine hK26 _ _ ?_
        clear hK26
        refine W.ret ?_
        have e1_ : (vwrite img l at_ x_).1 = (vput img l at_ x_).1 := by first | (exfalso; omega) | (simp only [vwrite]; rw [if_pos (by omega)]) | (simp only [vwrite]; rw [if_neg (by omega), if_pos (by assumption)]) | (simp only [vwrite]; rw [if_neg (by omega), if_neg (by assumption)])
        have e2_ : (vwrite img l at_ x_).2 = (vput img l at_ x_).2 := by first | (exfalso; omega) | (simp only [vwrite]; rw [if_pos (by omega)]) | (simp only [vwrite]; rw [if_neg (by omega), if_pos (by assumption)]) | (simp only [vwrite]; rw [if_neg (by omega), if_neg (by assumption)])
        refine ret_of (.int .i64 ((vput img l at_ x_).1)) (by kernel_rfl) ⟨_, ⟨by rw [e1_], by rw [e2_]⟩, hs29⟩

set_option maxRecDepth 20000 in
theorem rall_spec {b : Nat} {img : List Int} {l : List (Int × Int)} {at_ : Int} {la : Option Addr} {n lc : Nat} {ws : List Int} (B : Nat) (w : World) (hn : n = ws.length) (hsz : ws.length ≤ 1000000) (hat : -1 ≤ at_ ∧ at_ ≤ 1000000) : Spec Tryd.prog 110 #[(.pointer (some ⟨b, 0, none⟩)), (.int .i64 at_), (.slice la n lc)] B w [refA (ptr b) img l, kU64.row la lc ws] (fun v H' => v = .int .i64 (vwrites img at_ l 0 ws).1 ∧ H' = [refA (ptr b) img (vwrites img at_ l 0 ws).2]) := by
  refine spec_W Tryd.func110 rfl fun l0 hs => ?_
  subst hn
  refine W.seq fun K1 hK1 => ?_
  refine W.region ?_
  refine ops_run 1 (by kernel_rfl) ?_
  refine ops_done (by kernel_rfl) ?_
  refine hK1 _ _ ?_
  clear hK1
  refine W.seq fun K2 hK2 => ?_
  refine W.seq fun K3 hK3 => ?_
  refine W.region ?_
  refine ops_run 1 (by kernel_rfl) ?_
  refine ops_done (by kernel_rfl) ?_
  refine hK3 _ _ ?_
  clear hK3
  refine W.block ?_
  refine W.loop (G := Nat × List (Int × Int)) (fun | (k, m), s_, w_ => (∃ us, s_ = slots 27 [(0, (.pointer (some ⟨b, 0, none⟩))), (1, (.int .i64 at_)), (2, (.slice la ws.length lc)), (7, (.int .i64 (k : Int)))] us) ∧ St B w l0 w_ [refA (ptr b) img m, kU64.row la lc ws] ∧ (k ≤ ws.length) ∧ (vwrites img at_ l 0 ws = vwrites img at_ m (k : Int) (ws.drop k))) (fun | (k, m) => ws.length - k) (0, l) ⟨slots_intro _ (by kernel_rfl), hs, Nat.zero_le _, rfl⟩ ?_
  rintro ⟨k, m⟩ _ w4 ⟨⟨us, rfl⟩, hs5, hk_, hkm⟩
  refine W.seq fun K6 hK6 => ?_
  refine W.seq fun K7 hK7 => ?_
  refine W.region ?_
  refine ops_run 4 (by kernel_rfl) ?_
  refine ops_done (by kernel_rfl) ?_
  refine hK7 _ _ ?_
  clear hK7
  refine W.cond (decide ((k : Int) < (ws.length : Int))) (by kernel_rfl) (fun h8 => ?_) (fun h8 => ?_)
  ·
    have h8p : (k : Int) < (ws.length : Int) := of_decide_eq_true h8
    refine W.skip ?_
    refine hK6 _ _ ?_
    clear hK6
    refine W.seq fun K9 hK9 => ?_
    refine W.block ?_
    refine W.seq fun K10 hK10 => ?_
    refine W.region ?_
    refine ops_run 3 (by kernel_rfl) ?_
    refine ops_val (v := .int .i64 (IntKind.i64.wrap (at_ + (k : Int)))) (v' := .int .i64 (at_ + (k : Int))) (by kernel_rfl) (congrArg (Value.int .i64) (wrap_i64 (by omega) (by omega))) ?_
    refine ops_run 2 (by kernel_rfl) ?_
    have hk11 : k < ws.length := by omega
    refine ops_R (runs_index (a := la) (n := ws.length) (z := (k : Int)) (size := 1) k rfl hk11 (kU64.addr (St.kcells kU64 hs5 1 rfl) hk11) (by kernel_rfl)) ?_
    refine ops_R (runs_load (ad := ((adr la (k * 1)).add 0)) (v := (.int .u64 (ws.getD k 0))) (by kernel_rfl) (kU64.at (St.kcells kU64 hs5 1 rfl) hk11 0 0 rfl)) ?_
    refine ops_call1 hs5 (by kernel_rfl) (rset_spec (b := b) (img := img) (l := m) (at_ := (at_ + (k : Int))) (x_ := (ws.getD k 0)) B _) ?_
    rintro _ _ w12 ⟨rfl, rfl⟩ hs13
    have hs14 := St.ap1 hs13
    refine ops_run 1 (by kernel_rfl) ?_
    refine ops_done (by kernel_rfl) ?_
    refine hK10 _ _ ?_
    clear hK10
    refine W.seq fun K15 hK15 => ?_
    refine W.region ?_
    refine ops_run 2 (by kernel_rfl) ?_
    refine ops_done (by kernel_rfl) ?_
    refine hK15 _ _ ?_
    clear hK15
    refine W.cond (!decide ((vwrite img m (at_ + (k : Int)) (ws.getD k 0)).1 = 0)) (by kernel_rfl) (fun h16 => ?_) (fun h16 => ?_)
    ·
      have h16p : ¬ ((vwrite img m (at_ + (k : Int)) (ws.getD k 0)).1 = 0) := of_decide_eq_false (bnot_true h16)
      refine W.seq fun K17 hK17 => ?_
      refine W.region ?_
      refine ops_run 2 (by kernel_rfl) ?_
      refine ops_done (by kernel_rfl) ?_
      refine hK17 _ _ ?_
      clear hK17
      refine W.ret (ret_block (ret_seq (ret_seq (ret_block (ret_seq ?_)))))
      have hs18 := St.tk1 hs14
      have e_ : vwrites img at_ l 0 ws = vwrite img m (at_ + (k : Int)) (ws.getD k 0) := hkm.trans ((vwrites_step (by omega)).trans (if_neg (by assumption)))
      refine ret_of (.int .i64 ((vwrite img m (at_ + (k : Int)) (ws.getD k 0)).1)) (by kernel_rfl) ⟨_, ⟨by rw [e_], by rw [e_]⟩, hs18⟩
    ·
      have h16p : (vwrite img m (at_ + (k : Int)) (ws.getD k 0)).1 = 0 := of_decide_eq_true (bnot_false h16)
      refine W.skip ?_
      refine normal_block ?_
      refine hK9 _ _ ?_
      clear hK9
      refine W.region ?_
      refine ops_run 1 (by kernel_rfl) ?_
      refine ops_val (v := .int .i64 (IntKind.i64.wrap ((k : Int) + 1))) (v' := .int .i64 ((k + 1 : Nat) : Int)) (by kernel_rfl) (congrArg (Value.int .i64) (wrap_i64 (by omega) (by omega))) ?_
      refine ops_run 1 (by kernel_rfl) ?_
      refine ops_done (by kernel_rfl) ?_
      have e0_ : (vwrite img m (at_ + (k : Int)) (ws.getD k 0)).1 = 0 := by assumption
      have hk2 := (vwrites_step (img := img) (at_ := at_) (m := m) (ws := ws) (k := k) (by omega)).trans (if_pos e0_)
      exact ⟨(k + 1, (vwrite img m (at_ + (k : Int)) (ws.getD k 0)).2), ⟨slots_intro _ (by kernel_rfl), hs14, by omega, hkm.trans hk2⟩, by first | omega | (dsimp only; omega)⟩
  ·
    have h8p : ¬ ((k : Int) < (ws.length : Int)) := of_decide_eq_false h8
    refine W.exit (exit_seq (exit_seq (exit_here ?_)))
    refine hK2 _ _ ?_
    clear hK2
    refine W.seq fun K19 hK19 => ?_
    refine W.region ?_
    refine ops_run 1 (by kernel_rfl) ?_
    refine ops_done (by kernel_rfl) ?_
    refine hK19 _ _ ?_
    clear hK19
    refine W.ret ?_
    have hs20 := St.tk1 hs5
    have e_ : vwrites img at_ l 0 ws = (0, m) := hkm.trans (by rw [List.drop_of_length_le (by omega)]; rfl)
    refine ret_of (.int .i64 0) (by kernel_rfl) ⟨_, ⟨by rw [e_], by rw [e_]⟩, hs20⟩

end Go.Proofs.YthimamnblklkbaaDoor

/- Contracts of layer 10, by a program. -/
namespace Go.Proofs.YthimamnblklkbaaDoor
open Go Go.RowKit
set_option linter.unusedSimpArgs false
set_option linter.unusedVariables false

set_option maxRecDepth 20000 in
theorem word_spec {at_ x_ : Int} (B : Nat) (w : World) : Spec Tryd.prog 104 #[(.int .i64 at_), (.int .u64 x_)] B w [] (fun v H' => ∃ b1 b2, v = (.func (.func 144) #[] #[(.pointer (some ⟨b1, 0, none⟩)), (.pointer (some ⟨b2, 0, none⟩))]) ∧ H' = [blk b1 (.cells [(.int .i64 at_)].toArray 3 (0, 0)), blk b2 (.cells [(.int .u64 x_)].toArray 38 (0, 0))]) := by
  refine spec_Q Tryd.func104 rfl fun hs => ?_
  refine W.seq fun K1 hK1 => ?_
  refine W.region ?_
  refine ops_new (fun b => .pointer (some ⟨b, 0, none⟩)) (.cells [(.int .i64 at_)].toArray 3 (0, 0)) hs (by kernel_rfl) (fun b4 w2 hs3 => ?_)
  refine ops_new (fun b => .pointer (some ⟨b, 0, none⟩)) (.cells [(.int .u64 x_)].toArray 38 (0, 0)) hs3 (by kernel_rfl) (fun b7 w5 hs6 => ?_)
  refine ops_run 1 (by kernel_rfl) ?_
  refine ops_done (by kernel_rfl) ?_
  refine hK1 _ _ ?_
  clear hK1
  refine W.seq fun K8 hK8 => ?_
  refine W.region ?_
  refine ops_run 2 (by kernel_rfl) ?_
  refine ops_done (by kernel_rfl) ?_
  refine hK8 _ _ ?_
  clear hK8
  refine W.ret ?_
  have hs9 := St.f1 hs6
  refine ret_of (.func (.func 144) #[] #[(.pointer (some ⟨b4, 0, none⟩)), (.pointer (some ⟨b7, 0, none⟩))]) (by kernel_rfl) ⟨_, ⟨b4, b7, rfl, rfl⟩, hs9⟩

set_option maxRecDepth 20000 in
theorem word1_spec {b : Nat} {img : List Int} {l : List (Int × Int)} {b1 b2 : Nat} {at_ x_ : Int} (B : Nat) (w : World) (h1 : w.heap[b1]? = some (.cells [(.int .i64 at_)].toArray 3 (0, 0))) (h2 : w.heap[b2]? = some (.cells [(.int .u64 x_)].toArray 38 (0, 0))) : Spec Tryd.prog 144 #[(.pointer (some ⟨b, 0, none⟩)), (.pointer (some ⟨b1, 0, none⟩)), (.pointer (some ⟨b2, 0, none⟩))] B w [viewA (ptr b) img l] (fun v H' => v = .int .i64 (vwrite img l at_ x_).1 ∧ H' = [viewA (ptr b) img (vwrite img l at_ x_).2]) := by
  refine spec_W Tryd.func144 rfl fun l0 hs => ?_
  refine W.seq fun K1 hK1 => ?_
  refine W.region ?_
  refine ops_run 1 (by kernel_rfl) ?_
  refine ops_done (by kernel_rfl) ?_
  refine hK1 _ _ ?_
  clear hK1
  refine W.seq fun K2 hK2 => ?_
  refine W.region ?_
  refine ops_run 1 (by kernel_rfl) ?_
  refine ops_R (runs_load (ad := ⟨b1, 0, none⟩) (v := (.int .i64 at_)) (by kernel_rfl) (cell_of_blk h1 rfl)) ?_
  refine ops_R (runs_load (ad := ⟨b2, 0, none⟩) (v := (.int .u64 x_)) (by kernel_rfl) (cell_of_blk h2 rfl)) ?_
  refine ops_call1 hs (by kernel_rfl) (sset_spec (b := b) (img := img) (l := l) (at_ := at_) (x_ := x_) B _) ?_
  rintro _ _ w3 ⟨rfl, rfl⟩ hs4
  have hs5 := St.ap1 hs4
  refine ops_run 1 (by kernel_rfl) ?_
  refine ops_done (by kernel_rfl) ?_
  refine hK2 _ _ ?_
  clear hK2
  refine W.ret ?_
  refine ret_of (.int .i64 ((vwrite img l at_ x_).1)) (by kernel_rfl) ⟨_, ⟨rfl, rfl⟩, hs5⟩

set_option maxRecDepth 20000 in
theorem row_spec {b : Nat} {img : List Int} {l : List (Int × Int)} {a : Option Addr} {n c : Nat} {xs : List (Int × Int)} (B : Nat) (w : World) (hn : n = xs.length) (hsz : xs.length ≤ 1000000) : Spec Tryd.prog 103 #[(.pointer (some ⟨b, 0, none⟩)), (.slice a n c)] B w [viewA (ptr b) img l, stepsA a c xs] (fun v H' => v = .int .i64 (vsets img l xs).1 ∧ H' = [viewA (ptr b) img (vsets img l xs).2]) := by
  refine spec_W Tryd.func103 rfl fun l0 hs => ?_
  obtain ⟨bs, hbs, hs1⟩ := St.steps_open (St.f1 hs)
  obtain rfl : n = bs.length := hn.trans hbs.symm
  refine W.seq fun K1 hK1 => ?_
  refine W.region ?_
  refine ops_run 1 (by kernel_rfl) ?_
  refine ops_done (by kernel_rfl) ?_
  refine hK1 _ _ ?_
  clear hK1
  refine W.seq fun K2 hK2 => ?_
  refine W.seq fun K3 hK3 => ?_
  refine W.region ?_
  refine ops_run 3 (by kernel_rfl) ?_
  refine ops_done (by kernel_rfl) ?_
  refine hK3 _ _ ?_
  clear hK3
  refine W.block ?_
  refine W.loop (G := Nat × List (Int × Int)) (fun | (k, m), s_, w_ => (∃ us, s_ = slots 21 [(0, (.pointer (some ⟨b, 0, none⟩))), (8, (.slice a bs.length c)), (9, (.int .i64 (bs.length : Int))), (10, (.int .i64 (k : Int)))] us) ∧ St B w l0 w_ [kStep.row a c bs, boxesA bs xs, viewA (ptr b) img m] ∧ (k ≤ xs.length) ∧ (vsets img l xs = vsets img m (xs.drop k))) (fun | (k, m) => xs.length - k) (0, l) ⟨slots_intro _ (by kernel_rfl), hs1, Nat.zero_le _, rfl⟩ ?_
  rintro ⟨k, m⟩ _ w4 ⟨⟨us, rfl⟩, hs5, hk_, hkm⟩
  refine W.seq fun K6 hK6 => ?_
  refine W.region ?_
  refine ops_run 1 (by kernel_rfl) ?_
  refine ops_done (by kernel_rfl) ?_
  refine hK6 _ _ ?_
  clear hK6
  refine W.seq fun K7 hK7 => ?_
  refine W.cond (decide ((k : Int) < (bs.length : Int))) (by kernel_rfl) (fun h8 => ?_) (fun h8 => ?_)
  ·
    have h8p : (k : Int) < (bs.length : Int) := of_decide_eq_true h8
    refine W.skip ?_
    refine hK7 _ _ ?_
    clear hK7
    refine W.seq fun K9 hK9 => ?_
    refine W.block ?_
    refine W.seq fun K10 hK10 => ?_
    refine W.region ?_
    have h12 : k < bs.length := by omega
    have hk11 := h12
    refine ops_R (runs_index (a := a) (n := bs.length) (z := (k : Int)) (size := 1) k rfl hk11 (kStep.addr (St.kcells kStep hs5 0 rfl) hk11) (by kernel_rfl)) ?_
    refine ops_R (runs_load (ad := ((adr a (k * 1)).add 0)) (v := (.func (.func 144) #[] #[(.pointer (some ⟨(bs.getD k (0, 0)).1, 0, none⟩)), (.pointer (some ⟨(bs.getD k (0, 0)).2, 0, none⟩))])) (by kernel_rfl) (kStep.at (St.kcells kStep hs5 0 rfl) hk11 (0, 0) 0 rfl)) ?_
    refine ops_run 1 (by kernel_rfl) ?_
    refine ops_done (by kernel_rfl) ?_
    refine hK10 _ _ ?_
    clear hK10
    refine W.seq fun K13 hK13 => ?_
    refine W.region ?_
    refine ops_run 2 (by kernel_rfl) ?_
    have hs14 := St.f2 hs5
    refine ops_call1 hs14 (by kernel_rfl) (word1_spec (b := b) (img := img) (l := m) (at_ := (xs.getD k (0, 0)).1) (x_ := (xs.getD k (0, 0)).2) (h1 := (hs5.entAt 1 rfl boxes_at k (by omega)).1) (h2 := (hs5.entAt 1 rfl boxes_at k (by omega)).2) B _) ?_
    rintro _ _ w15 ⟨rfl, rfl⟩ hs16
    have hs17 := St.ap1 hs16
    refine ops_run 1 (by kernel_rfl) ?_
    refine ops_done (by kernel_rfl) ?_
    refine hK13 _ _ ?_
    clear hK13
    refine W.seq fun K18 hK18 => ?_
    refine W.region ?_
    refine ops_run 2 (by kernel_rfl) ?_
    refine ops_done (by kernel_rfl) ?_
    refine hK18 _ _ ?_
    clear hK18
    refine W.cond (!decide ((vwrite img m (xs.getD k (0, 0)).1 (xs.getD k (0, 0)).2).1 = 0)) (by kernel_rfl) (fun h19 => ?_) (fun h19 => ?_)
    ·
      have h19p : ¬ ((vwrite img m (xs.getD k (0, 0)).1 (xs.getD k (0, 0)).2).1 = 0) := of_decide_eq_false (bnot_true h19)
      refine W.seq fun K20 hK20 => ?_
      refine W.region ?_
      refine ops_run 2 (by kernel_rfl) ?_
      refine ops_done (by kernel_rfl) ?_
      refine hK20 _ _ ?_
      clear hK20
      refine W.ret (ret_block (ret_seq (ret_seq (ret_block (ret_seq ?_)))))
      have hs21 := St.tk1 hs17
      have e_ : vsets img l xs = vwrite img m (xs.getD k (0, 0)).1 (xs.getD k (0, 0)).2 := hkm.trans ((vsets_step (by omega)).trans (if_neg (by assumption)))
      refine ret_of (.int .i64 ((vwrite img m (xs.getD k (0, 0)).1 (xs.getD k (0, 0)).2).1)) (by kernel_rfl) ⟨_, ⟨by rw [e_], by rw [e_]⟩, hs21⟩
    ·
      have h19p : (vwrite img m (xs.getD k (0, 0)).1 (xs.getD k (0, 0)).2).1 = 0 := of_decide_eq_true (bnot_false h19)
      refine W.skip ?_
      refine normal_block ?_
      refine hK9 _ _ ?_
      clear hK9
      refine W.region ?_
      have h22 : -9223372036854775808 ≤ ((k : Int) + 1) ∧ ((k : Int) + 1) ≤ 9223372036854775807 := by omega
      refine ops_val (v := .int .i64 (IntKind.i64.wrap ((k : Int) + 1))) (v' := .int .i64 ((k : Int) + 1)) (by kernel_rfl) (congrArg (Value.int .i64) (wrap_i64 h22.1 h22.2)) ?_
      refine ops_run 1 (by kernel_rfl) ?_
      refine ops_done (by kernel_rfl) ?_
      have e0_ : (vwrite img m (xs.getD k (0, 0)).1 (xs.getD k (0, 0)).2).1 = 0 := by assumption
      have hk2 := (vsets_step (img := img) (m := m) (xs := xs) (k := k) (by omega)).trans (if_pos e0_)
      have hs23 := St.f2 hs17
      have hs24 := St.f2 hs23
      exact ⟨(k + 1, (vwrite img m (xs.getD k (0, 0)).1 (xs.getD k (0, 0)).2).2), ⟨slots_intro _ (by kernel_rfl), hs24, by omega, hkm.trans hk2⟩, by first | omega | (dsimp only; omega)⟩
  ·
    have h8p : ¬ ((k : Int) < (bs.length : Int)) := of_decide_eq_false h8
    refine W.exit (exit_seq (exit_seq (exit_here ?_)))
    refine hK2 _ _ ?_
    clear hK2
    refine W.seq fun K25 hK25 => ?_
    refine W.region ?_
    refine ops_run 1 (by kernel_rfl) ?_
    refine ops_done (by kernel_rfl) ?_
    refine hK25 _ _ ?_
    clear hK25
    refine W.ret ?_
    have hs26 := St.f2 hs5
    have hs27 := St.tk1 hs26
    have e_ : vsets img l xs = (0, m) := hkm.trans (by rw [List.drop_of_length_le (by omega)]; rfl)
    refine ret_of (.int .i64 0) (by kernel_rfl) ⟨_, ⟨by rw [e_], by rw [e_]⟩, hs27⟩

end Go.Proofs.YthimamnblklkbaaDoor

/- What the code computes, by a program. -/
namespace Go.Proofs.YthimamnblklkbaaDoor
open Go Go.RowKit
set_option linter.unusedSimpArgs false
set_option linter.unusedVariables false

def unpack_B0 (ws : List Int) (n_ : Int) (k18 : ((List Int) × Int) → Option (ByteArray × Int)) (q16 : List Int) (p17 : Int) : Option (ByteArray × Int) :=
  if p17 < (n_.toNat : Int) then (need (-9223372036854775808 ≤ (p17.tdiv 8) ∧ (p17.tdiv 8) ≤ 9223372036854775807) <|
need (0 ≤ (p17.tdiv 8) ∧ (p17.tdiv 8) < (ws.length : Int)) <|
need (-9223372036854775808 ≤ (8 * p17.tmod 8) ∧ (8 * p17.tmod 8) ≤ 9223372036854775807) <|
need (0 ≤ (8 * p17.tmod 8)) <|
need (0 ≤ p17 ∧ p17 < (n_.toNat : Int)) <|
need (p17.toNat < q16.length) <|
need (-9223372036854775808 ≤ (p17 + 1) ∧ (p17 + 1) ≤ 9223372036854775807) <|
k18 ((q16.set p17.toNat ((shrK .u64 (ws.getD ((p17.tdiv 8).toNat) 0) (8 * p17.tmod 8)) % 256)), (p17 + 1))) else (need (n_.toNat = q16.length) <|
some ((strOfNums q16), 0))

def unpack_M (ws : List Int) (n_ : Int) : Option (ByteArray × Int) :=
  if n_ < 0 then (some (ByteArray.empty, 1)) else (need (-9223372036854775808 ≤ (8 * (ws.length : Int)) ∧ (8 * (ws.length : Int)) ≤ 9223372036854775807) <|
if n_ > (8 * (ws.length : Int)) then (some (ByteArray.empty, 1)) else (need (n_ ≤ 1000000000) <|
iter (fun k_ s_ => unpack_B0 ws n_ k_ s_.1 s_.2) FUEL ((List.replicate n_.toNat (0 : Int)), 0)))

set_option maxRecDepth 20000 in
set_option maxHeartbeats 1000000 in
set_option linter.unusedVariables false in
theorem unpack_walk {ws : List Int} {n_ : Int} {wa : Option Addr} {wc : Nat} {r : ByteArray × Int} (B : Nat) (w : World) (hw : CellsAt wa (kU64.cells ws) w) (hm : unpack_M ws n_ = some r) : Spec Tryd.prog 102 #[(.slice wa ws.length wc), (.int .i64 n_)] B w [] (fun v H' => v = .tuple #[.string r.1, .int .i64 r.2] ∧ H' = []) := by
  refine spec_Q Tryd.func102 rfl fun hs => ?_
  unfold unpack_M at hm
  refine W.seq fun K1 hK1 => ?_
  refine W.region ?_
  refine ops_run 2 (by kernel_rfl) ?_
  refine ops_done (by kernel_rfl) ?_
  refine hK1 _ _ ?_
  clear hK1
  refine W.seq fun K2 hK2 => ?_
  refine W.seq fun K3 hK3 => ?_
  refine W.region ?_
  refine ops_run 3 (by kernel_rfl) ?_
  rcases Bool.eq_false_or_eq_true (decide (n_ < 0)) with h4 | h4
  ·
    have h4p : n_ < 0 := of_decide_eq_true h4
    replace hm := ite_yes hm h4p
    refine ops_set 10 (v := .bool true) (eq_bool_of (by kernel_rfl) h4) ?_
    refine ops_set 9 (v := .bool true) (eq_bool_of (by kernel_rfl) h4) ?_
    refine ops_run 6 (by kernel_rfl) ?_
    refine ops_done (by kernel_rfl) ?_
    refine hK3 _ _ ?_
    clear hK3
    refine W.cond_true true (by kernel_rfl) rfl ?_
    refine W.seq fun K5 hK5 => ?_
    refine W.region ?_
    refine ops_run 2 (by kernel_rfl) ?_
    refine ops_done (by kernel_rfl) ?_
    refine hK5 _ _ ?_
    clear hK5
    refine W.ret (ret_seq ?_)
    obtain rfl := some_inj hm
    refine ret_of (.tuple #[(.string ByteArray.empty), (.int .i64 1)]) (by kernel_rfl) ⟨_, ⟨rfl, rfl⟩, hs⟩
  ·
    have h4p : ¬ (n_ < 0) := of_decide_eq_false h4
    replace hm := ite_no hm h4p
    refine ops_set 10 (v := .bool false) (eq_bool_of (by kernel_rfl) h4) ?_
    refine ops_set 9 (v := .bool false) (eq_bool_of (by kernel_rfl) h4) ?_
    refine ops_run 3 (by kernel_rfl) ?_
    obtain ⟨h6, hm⟩ := need_some hm
    refine ops_val (v := .int .i64 (IntKind.i64.wrap (8 * (ws.length : Int)))) (v' := .int .i64 (8 * (ws.length : Int))) (by kernel_rfl) (congrArg (Value.int .i64) (wrap_i64 h6.1 h6.2)) ?_
    refine ops_run 2 (by kernel_rfl) ?_
    refine ops_done (by kernel_rfl) ?_
    refine hK3 _ _ ?_
    clear hK3
    refine W.cond (decide (n_ > (8 * (ws.length : Int)))) (by kernel_rfl) (fun h7 => ?_) (fun h7 => ?_)
    ·
      have h7p : n_ > (8 * (ws.length : Int)) := of_decide_eq_true h7
      replace hm := ite_yes hm h7p
      refine W.seq fun K8 hK8 => ?_
      refine W.region ?_
      refine ops_run 2 (by kernel_rfl) ?_
      refine ops_done (by kernel_rfl) ?_
      refine hK8 _ _ ?_
      clear hK8
      refine W.ret (ret_seq ?_)
      obtain rfl := some_inj hm
      refine ret_of (.tuple #[(.string ByteArray.empty), (.int .i64 1)]) (by kernel_rfl) ⟨_, ⟨rfl, rfl⟩, hs⟩
    ·
      have h7p : ¬ (n_ > (8 * (ws.length : Int))) := of_decide_eq_false h7
      replace hm := ite_no hm h7p
      refine W.skip ?_
      refine hK2 _ _ ?_
      clear hK2
      refine W.seq fun K9 hK9 => ?_
      refine W.region ?_
      refine ops_run 1 (by kernel_rfl) ?_
      obtain ⟨h13, hm⟩ := need_some hm
      refine ops_makeSlice kU8 0 (z := n_) (bytes := 1) n_.toNat (nat_of (by omega)) hs (by kernel_rfl) (by omega) (by unfold maxLen; omega) (fun b10 w11 hs12 => ?_)
      refine ops_run 1 (by kernel_rfl) ?_
      refine ops_done (by kernel_rfl) ?_
      refine hK9 _ _ ?_
      clear hK9
      refine W.seq fun K14 hK14 => ?_
      refine W.seq fun K15 hK15 => ?_
      refine W.region ?_
      refine ops_run 3 (by kernel_rfl) ?_
      refine ops_done (by kernel_rfl) ?_
      refine hK15 _ _ ?_
      clear hK15
      refine W.block ?_
      refine W.loop_iter (G := (List Int) × Int) (σ := (List Int) × Int) (fun | (q16, p17) => (q16, p17)) (fun | (q16, p17), s_, w_ => (∃ us, s_ = slots 40 [(0, (.slice wa ws.length wc)), (6, (.slice (some ⟨b10, 0, none⟩) n_.toNat n_.toNat)), (20, (.int .i64 (n_.toNat : Int))), (21, (.int .i64 p17))] us) ∧ St B w [] w_ [kU8.row (some ⟨b10, 0, none⟩) n_.toNat q16]) ((List.replicate n_.toNat (0 : Int)), 0) ⟨slots_intro _ (by kernel_rfl), hs12⟩ hm ?_
      rintro k18 ih19 ⟨q16, p17⟩ _ w20 ⟨⟨us, rfl⟩, hs21⟩ hm
      replace hm : unpack_B0 ws n_ k18 q16 p17 = some r := hm
      unfold unpack_B0 at hm
      refine W.seq fun K22 hK22 => ?_
      refine W.region ?_
      refine ops_run 1 (by kernel_rfl) ?_
      refine ops_done (by kernel_rfl) ?_
      refine hK22 _ _ ?_
      clear hK22
      refine W.seq fun K23 hK23 => ?_
      refine W.cond (decide (p17 < (n_.toNat : Int))) (by kernel_rfl) (fun h24 => ?_) (fun h24 => ?_)
      ·
        have h24p : p17 < (n_.toNat : Int) := of_decide_eq_true h24
        replace hm := ite_yes hm h24p
        refine W.skip ?_
        refine hK23 _ _ ?_
        clear hK23
        refine W.seq fun K25 hK25 => ?_
        refine W.block ?_
        refine W.seq fun K26 hK26 => ?_
        refine W.region ?_
        refine ops_run 2 (by kernel_rfl) ?_
        refine ops_done (by kernel_rfl) ?_
        refine hK26 _ _ ?_
        clear hK26
        refine W.region ?_
        refine ops_run 4 (by kernel_rfl) ?_
        obtain ⟨h27, hm⟩ := need_some hm
        refine ops_R (v := .int .i64 (p17.tdiv 8)) (runs_quo (k := .i64) (a := p17) (b := 8) (by kernel_rfl) (by decide) (wrap_i64 h27.1 h27.2)) ?_
        obtain ⟨h29, hm⟩ := need_some hm
        have hk28 := lt_toNat h29
        refine ops_R (runs_index (a := wa) (n := ws.length) (z := (p17.tdiv 8)) (size := 1) ((p17.tdiv 8).toNat) (nat_of h29.1) hk28 (kU64.addr (hs21.oldCells hw) hk28) (by kernel_rfl)) ?_
        refine ops_R (runs_load (ad := ((adr wa (((p17.tdiv 8).toNat) * 1)).add 0)) (v := (.int .u64 (ws.getD ((p17.tdiv 8).toNat) 0))) (by kernel_rfl) (kU64.at (hs21.oldCells hw) hk28 0 0 rfl)) ?_
        refine ops_run 2 (by kernel_rfl) ?_
        obtain ⟨h30, hm⟩ := need_some hm
        refine ops_val (v := .int .i64 (IntKind.i64.wrap (8 * p17.tmod 8))) (v' := .int .i64 (8 * p17.tmod 8)) (by kernel_rfl) (congrArg (Value.int .i64) (wrap_i64 h30.1 h30.2)) ?_
        obtain ⟨h31, hm⟩ := need_some hm
        refine ops_R (v := .int .u64 (shrK .u64 (ws.getD ((p17.tdiv 8).toNat) 0) (8 * p17.tmod 8))) (runs_shift (b := false) (k := .u64) (x := (ws.getD ((p17.tdiv 8).toNat) 0)) (y := (8 * p17.tmod 8)) (by kernel_rfl) h31) ?_
        refine ops_val (v := .int .u8 (IntKind.u8.wrap (shrK .u64 (ws.getD ((p17.tdiv 8).toNat) 0) (8 * p17.tmod 8)))) (v' := .int .u8 ((shrK .u64 (ws.getD ((p17.tdiv 8).toNat) 0) (8 * p17.tmod 8)) % 256)) (by kernel_rfl) (congrArg (Value.int .u8) (wrap_u8_mod _)) ?_
        obtain ⟨h33, hm⟩ := need_some hm
        have hk32 := lt_toNat h33
        obtain ⟨h35, hm⟩ := need_some hm
        have hk34 := h35
        refine ops_R (runs_index (a := (some ⟨b10, 0, none⟩)) (n := n_.toNat) (z := p17) (size := 1) p17.toNat (nat_of h33.1) hk32 (kU8.addr (St.kcells kU8 hs21 0 rfl) hk34) (by kernel_rfl)) ?_
        refine ops_storeK kU8 (j := 0) (vs := [(.int .u8 ((shrK .u64 (ws.getD ((p17.tdiv 8).toNat) 0) (8 * p17.tmod 8)) % 256))]) 0 ((shrK .u64 (ws.getD ((p17.tdiv 8).toNat) 0) (8 * p17.tmod 8)) % 256) hs21 hk34 (Nat.le_of_ble_eq_true rfl) (by simp) rfl rfl (by kernel_rfl) (fun w36 hs37 => ?_)
        refine ops_done (by kernel_rfl) ?_
        refine normal_block ?_
        refine hK25 _ _ ?_
        clear hK25
        refine W.region ?_
        obtain ⟨h39, hm⟩ := need_some hm
        refine ops_val (v := .int .i64 (IntKind.i64.wrap (p17 + 1))) (v' := .int .i64 (p17 + 1)) (by kernel_rfl) (congrArg (Value.int .i64) (wrap_i64 h39.1 h39.2)) ?_
        refine ops_run 1 (by kernel_rfl) ?_
        refine ops_done (by kernel_rfl) ?_
        refine loopAt_next ?_
        exact ih19 ((q16.set p17.toNat ((shrK .u64 (ws.getD ((p17.tdiv 8).toNat) 0) (8 * p17.tmod 8)) % 256)), (p17 + 1)) _ _ ⟨slots_intro _ (by kernel_rfl), hs37⟩ hm
      ·
        have h24p : ¬ (p17 < (n_.toNat : Int)) := of_decide_eq_false h24
        replace hm := ite_no hm h24p
        refine W.exit (exit_seq (exit_seq (exit_here ?_)))
        refine hK14 _ _ ?_
        clear hK14
        refine W.seq fun K40 hK40 => ?_
        refine W.region ?_
        refine ops_run 1 (by kernel_rfl) ?_
        obtain ⟨h41, hm⟩ := need_some hm
        refine ops_R (runs_bytesStr (a := (some ⟨b10, 0, none⟩)) (n := n_.toNat) (c := n_.toNat) (xs := q16) (St.kcells kU8 hs21 0 rfl) h41 (by kernel_rfl)) ?_
        refine ops_run 2 (by kernel_rfl) ?_
        refine ops_done (by kernel_rfl) ?_
        refine hK40 _ _ ?_
        clear hK40
        refine W.ret ?_
        obtain rfl := some_inj hm
        have hs42 := St.tk0 hs21
        refine ret_of (.tuple #[(.string (strOfNums q16)), (.int .i64 0)]) (by kernel_rfl) ⟨_, ⟨rfl, rfl⟩, hs42⟩

def runpack_B0 (ws : List Int) (n_ : Int) (k16 : ((List Int) × Int) → Option (ByteArray × Int)) (q14 : List Int) (p15 : Int) : Option (ByteArray × Int) :=
  if p15 < n_ then (need (-9223372036854775808 ≤ (p15.tdiv 8) ∧ (p15.tdiv 8) ≤ 9223372036854775807) <|
need (0 ≤ (p15.tdiv 8) ∧ (p15.tdiv 8) < (ws.length : Int)) <|
need (-9223372036854775808 ≤ (8 * p15.tmod 8) ∧ (8 * p15.tmod 8) ≤ 9223372036854775807) <|
need (0 ≤ (8 * p15.tmod 8) ∧ (8 * p15.tmod 8) ≤ 18446744073709551615) <|
need (0 ≤ (8 * p15.tmod 8)) <|
need (q14.length + 1 ≤ 1000000000) <|
need (-9223372036854775808 ≤ (p15 + 1) ∧ (p15 + 1) ≤ 9223372036854775807) <|
k16 ((q14 ++ [((shrK .u64 (ws.getD ((p15.tdiv 8).toNat) 0) (8 * p15.tmod 8)) % 256)]), (p15 + 1))) else (some ((strOfNums q14), 0))

def runpack_M (ws : List Int) (n_ : Int) : Option (ByteArray × Int) :=
  if n_ < 0 then (some (ByteArray.empty, 1)) else (need (-9223372036854775808 ≤ (8 * (ws.length : Int)) ∧ (8 * (ws.length : Int)) ≤ 9223372036854775807) <|
if n_ > (8 * (ws.length : Int)) then (some (ByteArray.empty, 1)) else (iter (fun k_ s_ => runpack_B0 ws n_ k_ s_.1 s_.2) FUEL ([], 0)))

set_option maxRecDepth 20000 in
set_option maxHeartbeats 1000000 in
set_option linter.unusedVariables false in
theorem runpack_walk {ws : List Int} {n_ : Int} {wa : Option Addr} {wc : Nat} {r : ByteArray × Int} (B : Nat) (w : World) (hw : CellsAt wa (kU64.cells ws) w) (hm : runpack_M ws n_ = some r) : Spec Tryd.prog 111 #[(.slice wa ws.length wc), (.int .i64 n_)] B w [] (fun v H' => v = .tuple #[.string r.1, .int .i64 r.2] ∧ H' = []) := by
  refine spec_Q Tryd.func111 rfl fun hs => ?_
  unfold runpack_M at hm
  refine W.seq fun K1 hK1 => ?_
  refine W.region ?_
  refine ops_run 2 (by kernel_rfl) ?_
  refine ops_done (by kernel_rfl) ?_
  refine hK1 _ _ ?_
  clear hK1
  refine W.seq fun K2 hK2 => ?_
  refine W.seq fun K3 hK3 => ?_
  refine W.region ?_
  refine ops_run 3 (by kernel_rfl) ?_
  rcases Bool.eq_false_or_eq_true (decide (n_ < 0)) with h4 | h4
  ·
    have h4p : n_ < 0 := of_decide_eq_true h4
    replace hm := ite_yes hm h4p
    refine ops_set 10 (v := .bool true) (eq_bool_of (by kernel_rfl) h4) ?_
    refine ops_set 9 (v := .bool true) (eq_bool_of (by kernel_rfl) h4) ?_
    refine ops_run 6 (by kernel_rfl) ?_
    refine ops_done (by kernel_rfl) ?_
    refine hK3 _ _ ?_
    clear hK3
    refine W.cond_true true (by kernel_rfl) rfl ?_
    refine W.seq fun K5 hK5 => ?_
    refine W.region ?_
    refine ops_run 2 (by kernel_rfl) ?_
    refine ops_done (by kernel_rfl) ?_
    refine hK5 _ _ ?_
    clear hK5
    refine W.ret (ret_seq ?_)
    obtain rfl := some_inj hm
    refine ret_of (.tuple #[(.string ByteArray.empty), (.int .i64 1)]) (by kernel_rfl) ⟨_, ⟨rfl, rfl⟩, hs⟩
  ·
    have h4p : ¬ (n_ < 0) := of_decide_eq_false h4
    replace hm := ite_no hm h4p
    refine ops_set 10 (v := .bool false) (eq_bool_of (by kernel_rfl) h4) ?_
    refine ops_set 9 (v := .bool false) (eq_bool_of (by kernel_rfl) h4) ?_
    refine ops_run 3 (by kernel_rfl) ?_
    obtain ⟨h6, hm⟩ := need_some hm
    refine ops_val (v := .int .i64 (IntKind.i64.wrap (8 * (ws.length : Int)))) (v' := .int .i64 (8 * (ws.length : Int))) (by kernel_rfl) (congrArg (Value.int .i64) (wrap_i64 h6.1 h6.2)) ?_
    refine ops_run 2 (by kernel_rfl) ?_
    refine ops_done (by kernel_rfl) ?_
    refine hK3 _ _ ?_
    clear hK3
    refine W.cond (decide (n_ > (8 * (ws.length : Int)))) (by kernel_rfl) (fun h7 => ?_) (fun h7 => ?_)
    ·
      have h7p : n_ > (8 * (ws.length : Int)) := of_decide_eq_true h7
      replace hm := ite_yes hm h7p
      refine W.seq fun K8 hK8 => ?_
      refine W.region ?_
      refine ops_run 2 (by kernel_rfl) ?_
      refine ops_done (by kernel_rfl) ?_
      refine hK8 _ _ ?_
      clear hK8
      refine W.ret (ret_seq ?_)
      obtain rfl := some_inj hm
      refine ret_of (.tuple #[(.string ByteArray.empty), (.int .i64 1)]) (by kernel_rfl) ⟨_, ⟨rfl, rfl⟩, hs⟩
    ·
      have h7p : ¬ (n_ > (8 * (ws.length : Int))) := of_decide_eq_false h7
      replace hm := ite_no hm h7p
      refine W.skip ?_
      refine hK2 _ _ ?_
      clear hK2
      refine W.seq fun K9 hK9 => ?_
      refine W.region ?_
      refine ops_run 1 (by kernel_rfl) ?_
      refine ops_done (by kernel_rfl) ?_
      refine hK9 _ _ ?_
      clear hK9
      refine W.seq fun K10 hK10 => ?_
      refine W.seq fun K11 hK11 => ?_
      refine W.region ?_
      refine ops_run 1 (by kernel_rfl) ?_
      refine ops_done (by kernel_rfl) ?_
      refine hK11 _ _ ?_
      clear hK11
      refine W.block ?_
      have hs20 := St.knil kU8 hs
      refine W.loop_iter (G := (List Int) × Int × (Option Addr) × Nat) (σ := (List Int) × Int) (fun | (q14, p15, m12, m13) => (q14, p15)) (fun | (q14, p15, m12, m13), s_, w_ => (∃ us, s_ = slots 38 [(0, (.slice wa ws.length wc)), (1, (.int .i64 n_)), (6, (.slice m12 q14.length m13)), (7, (.int .i64 p15))] us) ∧ St B w [] w_ [kU8.row m12 m13 q14]) ([], 0, none, 0) ⟨slots_intro _ (by kernel_rfl), hs20⟩ hm ?_
      rintro k16 ih17 ⟨q14, p15, m12, m13⟩ _ w18 ⟨⟨us, rfl⟩, hs19⟩ hm
      replace hm : runpack_B0 ws n_ k16 q14 p15 = some r := hm
      unfold runpack_B0 at hm
      refine W.seq fun K21 hK21 => ?_
      refine W.seq fun K22 hK22 => ?_
      refine W.region ?_
      refine ops_run 3 (by kernel_rfl) ?_
      refine ops_done (by kernel_rfl) ?_
      refine hK22 _ _ ?_
      clear hK22
      refine W.cond (decide (p15 < n_)) (by kernel_rfl) (fun h23 => ?_) (fun h23 => ?_)
      ·
        have h23p : p15 < n_ := of_decide_eq_true h23
        replace hm := ite_yes hm h23p
        refine W.skip ?_
        refine hK21 _ _ ?_
        clear hK21
        refine W.seq fun K24 hK24 => ?_
        refine W.block ?_
        refine W.region ?_
        refine ops_run 3 (by kernel_rfl) ?_
        obtain ⟨h25, hm⟩ := need_some hm
        refine ops_R (v := .int .i64 (p15.tdiv 8)) (runs_quo (k := .i64) (a := p15) (b := 8) (by kernel_rfl) (by decide) (wrap_i64 h25.1 h25.2)) ?_
        obtain ⟨h27, hm⟩ := need_some hm
        have hk26 := lt_toNat h27
        refine ops_R (runs_index (a := wa) (n := ws.length) (z := (p15.tdiv 8)) (size := 1) ((p15.tdiv 8).toNat) (nat_of h27.1) hk26 (kU64.addr (hs19.oldCells hw) hk26) (by kernel_rfl)) ?_
        refine ops_R (runs_load (ad := ((adr wa (((p15.tdiv 8).toNat) * 1)).add 0)) (v := (.int .u64 (ws.getD ((p15.tdiv 8).toNat) 0))) (by kernel_rfl) (kU64.at (hs19.oldCells hw) hk26 0 0 rfl)) ?_
        refine ops_run 2 (by kernel_rfl) ?_
        obtain ⟨h28, hm⟩ := need_some hm
        refine ops_val (v := .int .i64 (IntKind.i64.wrap (8 * p15.tmod 8))) (v' := .int .i64 (8 * p15.tmod 8)) (by kernel_rfl) (congrArg (Value.int .i64) (wrap_i64 h28.1 h28.2)) ?_
        obtain ⟨h29, hm⟩ := need_some hm
        refine ops_val (v := .int .u64 (IntKind.u64.wrap (8 * p15.tmod 8))) (v' := .int .u64 (8 * p15.tmod 8)) (by kernel_rfl) (congrArg (Value.int .u64) (wrap_u64 h29.1 (Int.lt_of_le_of_lt h29.2 (by decide)))) ?_
        obtain ⟨h30, hm⟩ := need_some hm
        refine ops_R (v := .int .u64 (shrK .u64 (ws.getD ((p15.tdiv 8).toNat) 0) (8 * p15.tmod 8))) (runs_shift (b := false) (k := .u64) (x := (ws.getD ((p15.tdiv 8).toNat) 0)) (y := (8 * p15.tmod 8)) (by kernel_rfl) h30) ?_
        refine ops_val (v := .int .u8 (IntKind.u8.wrap (shrK .u64 (ws.getD ((p15.tdiv 8).toNat) 0) (8 * p15.tmod 8)))) (v' := .int .u8 ((shrK .u64 (ws.getD ((p15.tdiv 8).toNat) 0) (8 * p15.tmod 8)) % 256)) (by kernel_rfl) (congrArg (Value.int .u8) (wrap_u8_mod _)) ?_
        refine ops_new (fun b => .slice (some ⟨b, 0, none⟩) 1 1) (.cells [(.int .u8 ((shrK .u64 (ws.getD ((p15.tdiv 8).toNat) 0) (8 * p15.tmod 8)) % 256))].toArray 5 (0, 0)) hs19 (by kernel_rfl) (fun b33 w31 hs32 => ?_)
        have hs34 := St.f1 hs32
        obtain ⟨h39, hm⟩ := need_some hm
        refine ops_appendK kU8 (bytes := 1) (a' := (some ⟨b33, 0, none⟩)) (c' := 1) (l := q14) (m := [((shrK .u64 (ws.getD ((p15.tdiv 8).toNat) 0) (8 * p15.tmod 8)) % 256)]) hs34 (by kernel_rfl) (by simp) (cells_blk (hs34.heapAt 1 rfl)) (by unfold maxLen; (try simp only [List.length_cons, List.length_nil]); omega) (by (try simp only [List.length_cons, List.length_nil]); omega) (fun a35 c36 w37 hs38 => ?_)
        refine ops_run 1 (by kernel_rfl) ?_
        refine ops_done (by kernel_rfl) ?_
        refine normal_block ?_
        refine hK24 _ _ ?_
        clear hK24
        refine W.region ?_
        refine ops_run 1 (by kernel_rfl) ?_
        obtain ⟨h40, hm⟩ := need_some hm
        refine ops_val (v := .int .i64 (IntKind.i64.wrap (p15 + 1))) (v' := .int .i64 (p15 + 1)) (by kernel_rfl) (congrArg (Value.int .i64) (wrap_i64 h40.1 h40.2)) ?_
        refine ops_run 1 (by kernel_rfl) ?_
        refine ops_done (by kernel_rfl) ?_
        have hs41 := St.tk1 hs38
        refine loopAt_next ?_
        exact ih17 ((q14 ++ [((shrK .u64 (ws.getD ((p15.tdiv 8).toNat) 0) (8 * p15.tmod 8)) % 256)]), (p15 + 1), a35, c36) _ _ ⟨slots_intro _ (by kernel_rfl), hs41⟩ hm
      ·
        have h23p : ¬ (p15 < n_) := of_decide_eq_false h23
        replace hm := ite_no hm h23p
        refine W.exit (exit_seq (exit_seq (exit_here ?_)))
        refine hK10 _ _ ?_
        clear hK10
        refine W.seq fun K42 hK42 => ?_
        refine W.region ?_
        refine ops_run 1 (by kernel_rfl) ?_
        refine ops_R (runs_bytesStr (a := m12) (n := q14.length) (c := m13) (xs := q14) (St.kcells kU8 hs19 0 rfl) rfl (by kernel_rfl)) ?_
        refine ops_run 2 (by kernel_rfl) ?_
        refine ops_done (by kernel_rfl) ?_
        refine hK42 _ _ ?_
        clear hK42
        refine W.ret ?_
        obtain rfl := some_inj hm
        have hs43 := St.tk0 hs19
        refine ret_of (.tuple #[(.string (strOfNums q14)), (.int .i64 0)]) (by kernel_rfl) ⟨_, ⟨rfl, rfl⟩, hs43⟩

end Go.Proofs.YthimamnblklkbaaDoor

/- What the code computes, by a program. -/
namespace Go.Proofs.YthimamnblklkbaaDoor
open Go Go.RowKit
set_option linter.unusedSimpArgs false
set_option linter.unusedVariables false

def ssess_M (img : List Int) (i_ : Int) : Option (Int × Int) :=
  if (sessAt i_) < 0 then (some (0, 1)) else (need (-9223372036854775808 ≤ ((sessAt i_) + 64) ∧ ((sessAt i_) + 64) ≤ 9223372036854775807) <|
if (img.length : Int) < ((sessAt i_) + 64) then (some (0, 8)) else (some ((sessAt i_), 0)))

set_option maxRecDepth 20000 in
set_option maxHeartbeats 2000000 in
set_option linter.unusedVariables false in
theorem ssess_walk {img : List Int} {l : List (Int × Int)} {i_ : Int} {vb : Nat} {r : Int × Int} (B : Nat) (w : World) (hL : CellsAt (some ⟨1, 0, none⟩) [(.int .i64 1), (.int .i64 2), (.int .i64 2)] w) (hv : ViewAt (ptr vb) img l w) (hm : ssess_M img i_ = some r) : Spec Tryd.prog 100 #[(.pointer (some ⟨vb, 0, none⟩)), (.int .i64 i_)] B w [] (fun v H' => v = (.tuple #[(.int .i64 r.1), (.int .i64 r.2)]) ∧ H' = []) := by
  refine spec_Q Tryd.func100 rfl fun hs => ?_
  unfold ssess_M at hm
  refine W.seq fun K1 hK1 => ?_
  refine W.region ?_
  refine ops_run 2 (by kernel_rfl) ?_
  refine ops_done (by kernel_rfl) ?_
  refine hK1 _ _ ?_
  clear hK1
  refine W.seq fun K2 hK2 => ?_
  refine W.region ?_
  refine ops_run 1 (by kernel_rfl) ?_
  refine ops_call0 hs (by kernel_rfl) (sess_spec (i_ := i_) (hL := (hs.oldCells hL)) B _) ?_
  rintro _ _ w3 ⟨rfl, rfl⟩ hs4
  have hs5 := St.ap0 hs4
  refine ops_run 1 (by kernel_rfl) ?_
  refine ops_done (by kernel_rfl) ?_
  refine hK2 _ _ ?_
  clear hK2
  refine W.seq fun K6 hK6 => ?_
  refine W.block ?_
  refine W.seq fun K7 hK7 => ?_
  refine W.region ?_
  refine ops_run 3 (by kernel_rfl) ?_
  refine ops_done (by kernel_rfl) ?_
  refine hK7 _ _ ?_
  clear hK7
  refine W.cond_false false (by kernel_rfl) rfl ?_
  refine W.seq fun K8 hK8 => ?_
  refine W.region ?_
  refine ops_run 3 (by kernel_rfl) ?_
  refine ops_done (by kernel_rfl) ?_
  refine hK8 _ _ ?_
  clear hK8
  refine W.cond (decide ((sessAt i_) < 0)) (by kernel_rfl) (fun h9 => ?_) (fun h9 => ?_)
  ·
    have h9p : (sessAt i_) < 0 := of_decide_eq_true h9
    replace hm := ite_yes hm h9p
    refine W.seq fun K10 hK10 => ?_
    refine W.region ?_
    refine ops_run 2 (by kernel_rfl) ?_
    refine ops_done (by kernel_rfl) ?_
    refine hK10 _ _ ?_
    clear hK10
    refine W.ret (ret_block (ret_seq ?_))
    obtain rfl := some_inj hm
    refine ret_of (.tuple #[(.int .i64 0), (.int .i64 1)]) (by kernel_rfl) ⟨_, ⟨rfl, rfl⟩, hs5⟩
  ·
    have h9p : ¬ ((sessAt i_) < 0) := of_decide_eq_false h9
    replace hm := ite_no hm h9p
    refine W.seq fun K11 hK11 => ?_
    refine W.region ?_
    refine ops_run 1 (by kernel_rfl) ?_
    refine ops_call0 hs5 (by kernel_rfl) (len_spec (hv := (viewAt_old hs5 hv)) B _) ?_
    rintro _ _ w12 ⟨rfl, rfl⟩ hs13
    have hs14 := St.ap0 hs13
    refine ops_run 1 (by kernel_rfl) ?_
    obtain ⟨h15, hm⟩ := need_some hm
    refine ops_val (v := .int .i64 (IntKind.i64.wrap ((sessAt i_) + 64))) (v' := .int .i64 ((sessAt i_) + 64)) (by kernel_rfl) (congrArg (Value.int .i64) (wrap_i64 h15.1 h15.2)) ?_
    refine ops_run 2 (by kernel_rfl) ?_
    refine ops_done (by kernel_rfl) ?_
    refine hK11 _ _ ?_
    clear hK11
    refine W.cond (decide ((img.length : Int) < ((sessAt i_) + 64))) (by kernel_rfl) (fun h16 => ?_) (fun h16 => ?_)
    ·
      have h16p : (img.length : Int) < ((sessAt i_) + 64) := of_decide_eq_true h16
      replace hm := ite_yes hm h16p
      refine W.seq fun K17 hK17 => ?_
      refine W.region ?_
      refine ops_run 2 (by kernel_rfl) ?_
      refine ops_done (by kernel_rfl) ?_
      refine hK17 _ _ ?_
      clear hK17
      refine W.ret (ret_block (ret_seq ?_))
      obtain rfl := some_inj hm
      refine ret_of (.tuple #[(.int .i64 0), (.int .i64 8)]) (by kernel_rfl) ⟨_, ⟨rfl, rfl⟩, hs14⟩
    ·
      have h16p : ¬ ((img.length : Int) < ((sessAt i_) + 64)) := of_decide_eq_false h16
      replace hm := ite_no hm h16p
      refine W.skip ?_
      refine normal_block ?_
      refine hK6 _ _ ?_
      clear hK6
      refine W.seq fun K18 hK18 => ?_
      refine W.region ?_
      refine ops_run 3 (by kernel_rfl) ?_
      refine ops_done (by kernel_rfl) ?_
      refine hK18 _ _ ?_
      clear hK18
      refine W.ret ?_
      obtain rfl := some_inj hm
      refine ret_of (.tuple #[(.int .i64 (sessAt i_)), (.int .i64 0)]) (by kernel_rfl) ⟨_, ⟨rfl, rfl⟩, hs14⟩

set_option maxRecDepth 20000 in
theorem ssess_nil {i_ : Int} (B : Nat) (w : World) (hL : CellsAt (some ⟨1, 0, none⟩) [(.int .i64 1), (.int .i64 2), (.int .i64 2)] w) : Spec Tryd.prog 100 #[(.pointer none), (.int .i64 i_)] B w [] (fun v H' => v = (.tuple #[(.int .i64 0), (.int .i64 2)]) ∧ H' = []) := by
  refine spec_Q Tryd.func100 rfl fun hs => ?_
  refine W.seq fun K1 hK1 => ?_
  refine W.region ?_
  refine ops_run 2 (by kernel_rfl) ?_
  refine ops_done (by kernel_rfl) ?_
  refine hK1 _ _ ?_
  clear hK1
  refine W.seq fun K2 hK2 => ?_
  refine W.region ?_
  refine ops_run 1 (by kernel_rfl) ?_
  refine ops_call0 hs (by kernel_rfl) (sess_spec (i_ := i_) (hL := (hs.oldCells hL)) B _) ?_
  rintro _ _ w3 ⟨rfl, rfl⟩ hs4
  have hs5 := St.ap0 hs4
  refine ops_run 1 (by kernel_rfl) ?_
  refine ops_done (by kernel_rfl) ?_
  refine hK2 _ _ ?_
  clear hK2
  refine W.seq fun K6 hK6 => ?_
  refine W.block ?_
  refine W.seq fun K7 hK7 => ?_
  refine W.region ?_
  refine ops_run 3 (by kernel_rfl) ?_
  refine ops_done (by kernel_rfl) ?_
  refine hK7 _ _ ?_
  clear hK7
  refine W.cond_true true (by kernel_rfl) rfl ?_
  refine W.seq fun K8 hK8 => ?_
  refine W.region ?_
  refine ops_run 2 (by kernel_rfl) ?_
  refine ops_done (by kernel_rfl) ?_
  refine hK8 _ _ ?_
  clear hK8
  refine W.ret (ret_block (ret_seq ?_))
  refine ret_of (.tuple #[(.int .i64 0), (.int .i64 2)]) (by kernel_rfl) ⟨_, ⟨rfl, rfl⟩, hs5⟩

end Go.Proofs.YthimamnblklkbaaDoor

/- What the code computes, by a program. -/
namespace Go.Proofs.YthimamnblklkbaaDoor
open Go Go.RowKit
set_option linter.unusedSimpArgs false
set_option linter.unusedVariables false

def sfind_M (img : List Int) (i_ : Int) (k_ : Int) : Option (Int × Int) :=
  if (slotAt i_ k_) < 0 then (some (0, 1)) else ((ssess_M img i_).bind fun r11 =>
some ((slotAt i_ k_), r11.2))

set_option maxRecDepth 20000 in
set_option maxHeartbeats 2000000 in
set_option linter.unusedVariables false in
theorem sfind_walk {img : List Int} {l : List (Int × Int)} {i_ : Int} {k_ : Int} {vb : Nat} {r : Int × Int} (B : Nat) (w : World) (hL : CellsAt (some ⟨1, 0, none⟩) [(.int .i64 1), (.int .i64 2), (.int .i64 2)] w) (hv : ViewAt (ptr vb) img l w) (hm : sfind_M img i_ k_ = some r) : Spec Tryd.prog 101 #[(.pointer (some ⟨vb, 0, none⟩)), (.int .i64 i_), (.int .i64 k_)] B w [] (fun v H' => v = (.tuple #[(.int .i64 r.1), (.int .i64 r.2)]) ∧ H' = []) := by
  refine spec_Q Tryd.func101 rfl fun hs => ?_
  unfold sfind_M at hm
  refine W.seq fun K1 hK1 => ?_
  refine W.region ?_
  refine ops_run 2 (by kernel_rfl) ?_
  refine ops_done (by kernel_rfl) ?_
  refine hK1 _ _ ?_
  clear hK1
  refine W.seq fun K2 hK2 => ?_
  refine W.region ?_
  refine ops_run 2 (by kernel_rfl) ?_
  refine ops_call0 hs (by kernel_rfl) (slotat_spec (i_ := i_) (k_ := k_) (hL := (hs.oldCells hL)) B _) ?_
  rintro _ _ w3 ⟨rfl, rfl⟩ hs4
  have hs5 := St.ap0 hs4
  refine ops_run 1 (by kernel_rfl) ?_
  refine ops_done (by kernel_rfl) ?_
  refine hK2 _ _ ?_
  clear hK2
  refine W.seq fun K6 hK6 => ?_
  refine W.seq fun K7 hK7 => ?_
  refine W.region ?_
  refine ops_run 6 (by kernel_rfl) ?_
  refine ops_done (by kernel_rfl) ?_
  refine hK7 _ _ ?_
  clear hK7
  refine W.cond (decide ((slotAt i_ k_) < 0)) (by kernel_rfl) (fun h8 => ?_) (fun h8 => ?_)
  ·
    have h8p : (slotAt i_ k_) < 0 := of_decide_eq_true h8
    replace hm := ite_yes hm h8p
    refine W.seq fun K9 hK9 => ?_
    refine W.region ?_
    refine ops_run 2 (by kernel_rfl) ?_
    refine ops_done (by kernel_rfl) ?_
    refine hK9 _ _ ?_
    clear hK9
    refine W.ret (ret_seq ?_)
    obtain rfl := some_inj hm
    refine ret_of (.tuple #[(.int .i64 0), (.int .i64 1)]) (by kernel_rfl) ⟨_, ⟨rfl, rfl⟩, hs5⟩
  ·
    have h8p : ¬ ((slotAt i_ k_) < 0) := of_decide_eq_false h8
    replace hm := ite_no hm h8p
    refine W.skip ?_
    refine hK6 _ _ ?_
    clear hK6
    refine W.seq fun K10 hK10 => ?_
    refine W.region ?_
    refine ops_run 2 (by kernel_rfl) ?_
    obtain ⟨r11, h12, hm⟩ := bind_some hm
    refine ops_call0 hs5 (by kernel_rfl) (ssess_walk (i_ := i_) (img := img) (l := l) (hL := (hs5.oldCells hL)) (hv := (viewAt_old hs5 hv)) (hm := h12) B _) ?_
    rintro _ _ w13 ⟨rfl, rfl⟩ hs14
    have hs15 := St.ap0 hs14
    refine ops_run 5 (by kernel_rfl) ?_
    refine ops_done (by kernel_rfl) ?_
    refine hK10 _ _ ?_
    clear hK10
    refine W.seq fun K16 hK16 => ?_
    refine W.region ?_
    refine ops_run 4 (by kernel_rfl) ?_
    refine ops_done (by kernel_rfl) ?_
    refine hK16 _ _ ?_
    clear hK16
    refine W.ret ?_
    obtain rfl := some_inj hm
    refine ret_of (.tuple #[(.int .i64 (slotAt i_ k_)), (.int .i64 r11.2)]) (by kernel_rfl) ⟨_, ⟨rfl, rfl⟩, hs15⟩

def sget_M (img : List Int) (l : List (Int × Int)) (i_ : Int) : Option (Bool × Int × Int × Int) :=
  (ssess_M img i_).bind fun r6 =>
if r6.2 = 0 then (if (vget img l r6.1) > 1 then (some (false, 0, 0, 4)) else (need (-9223372036854775808 ≤ (r6.1 + 1) ∧ (r6.1 + 1) ≤ 9223372036854775807) <|
need (-9223372036854775808 ≤ (r6.1 + 2) ∧ (r6.1 + 2) ≤ 9223372036854775807) <|
some (decide ((vget img l r6.1) = 1), (vget img l (r6.1 + 1)), (vget img l (r6.1 + 2)), 0))) else (some (false, 0, 0, r6.2))

set_option maxRecDepth 20000 in
set_option maxHeartbeats 2000000 in
set_option linter.unusedVariables false in
theorem sget_walk {img : List Int} {l : List (Int × Int)} {i_ : Int} {vb : Nat} {r : Bool × Int × Int × Int} (B : Nat) (w : World) (hL : CellsAt (some ⟨1, 0, none⟩) [(.int .i64 1), (.int .i64 2), (.int .i64 2)] w) (hv : ViewAt (ptr vb) img l w) (hm : sget_M img l i_ = some r) : Spec Tryd.prog 30 #[(.pointer (some ⟨vb, 0, none⟩)), (.int .i64 i_)] B w [] (fun v H' => v = (.tuple #[(.agg #[(.bool r.1), (.int .u64 r.2.1), (.int .u64 r.2.2.1)]), (.int .i64 r.2.2.2)]) ∧ H' = []) := by
  refine spec_Q Tryd.func30 rfl fun hs => ?_
  unfold sget_M at hm
  refine W.seq fun K1 hK1 => ?_
  refine W.region ?_
  refine ops_new (fun b => .pointer (some ⟨b, 0, none⟩)) (.cells [(.bool false), (.int .u64 0), (.int .u64 0)].toArray 48 (0, 0)) hs (by kernel_rfl) (fun b4 w2 hs3 => ?_)
  refine ops_run 1 (by kernel_rfl) ?_
  refine ops_done (by kernel_rfl) ?_
  refine hK1 _ _ ?_
  clear hK1
  refine W.seq fun K5 hK5 => ?_
  refine W.region ?_
  refine ops_run 2 (by kernel_rfl) ?_
  obtain ⟨r6, h7, hm⟩ := bind_some hm
  refine ops_call0 hs3 (by kernel_rfl) (ssess_walk (i_ := i_) (img := img) (l := l) (hL := (hs3.oldCells hL)) (hv := (viewAt_old hs3 hv)) (hm := h7) B _) ?_
  rintro _ _ w8 ⟨rfl, rfl⟩ hs9
  have hs10 := St.ap0 hs9
  refine ops_run 5 (by kernel_rfl) ?_
  refine ops_done (by kernel_rfl) ?_
  refine hK5 _ _ ?_
  clear hK5
  refine W.seq fun K11 hK11 => ?_
  refine W.seq fun K12 hK12 => ?_
  refine W.region ?_
  refine ops_run 2 (by kernel_rfl) ?_
  refine ops_done (by kernel_rfl) ?_
  refine hK12 _ _ ?_
  clear hK12
  refine W.cond (!decide (r6.2 = 0)) (by kernel_rfl) (fun h13 => ?_) (fun h13 => ?_)
  rotate_left
  ·
    have h13p : r6.2 = 0 := of_decide_eq_true (bnot_false h13)
    replace hm := ite_yes hm h13p
    refine W.skip ?_
    refine hK11 _ _ ?_
    clear hK11
    refine W.seq fun K14 hK14 => ?_
    refine W.region ?_
    refine ops_run 2 (by kernel_rfl) ?_
    refine ops_call0 hs10 (by kernel_rfl) (get_spec (at_ := r6.1) (hv := (viewAt_old hs10 hv)) B _) ?_
    rintro _ _ w15 ⟨rfl, rfl⟩ hs16
    have hs17 := St.ap0 hs16
    refine ops_run 1 (by kernel_rfl) ?_
    refine ops_done (by kernel_rfl) ?_
    refine hK14 _ _ ?_
    clear hK14
    refine W.seq fun K18 hK18 => ?_
    refine W.seq fun K19 hK19 => ?_
    refine W.region ?_
    refine ops_run 2 (by kernel_rfl) ?_
    refine ops_done (by kernel_rfl) ?_
    refine hK19 _ _ ?_
    clear hK19
    refine W.cond (decide ((vget img l r6.1) > 1)) (by kernel_rfl) (fun h20 => ?_) (fun h20 => ?_)
    ·
      have h20p : (vget img l r6.1) > 1 := of_decide_eq_true h20
      replace hm := ite_yes hm h20p
      refine W.seq fun K21 hK21 => ?_
      refine W.region ?_
      refine ops_run 1 (by kernel_rfl) ?_
      refine ops_store (off := 0) (cs := [(.bool false), (.int .u64 0), (.int .u64 0)]) (vs := [(.bool false), (.int .u64 0), (.int .u64 0)]) hs17 (by kernel_rfl) (by simp) rfl (fun w22 hs23 => ?_)
      have hs24 : St B w [] w22 [blk b4 (.cells [(.bool false), (.int .u64 0), (.int .u64 0)].toArray 48 (0, 0))] := hs23
      refine ops_run 1 (by kernel_rfl) ?_
      refine ops_done (by kernel_rfl) ?_
      refine hK21 _ _ ?_
      clear hK21
      refine W.ret (ret_seq ?_)
      obtain rfl := some_inj hm
      have hs25 := St.tk0 hs24
      refine ret_of (.tuple #[(.agg #[(.bool false), (.int .u64 0), (.int .u64 0)]), (.int .i64 4)]) (resS_of (by kernel_rfl) (resD_two rfl (.agg (ad := ⟨b4, 0, none⟩) (cs := [(.bool false), (.int .u64 0), (.int .u64 0)]) (by kernel_rfl) (by kernel_rfl) (cells_sub (hs24.heapAt 0 rfl) rfl)) (.tmp (by kernel_rfl)))) ⟨_, ⟨rfl, rfl⟩, hs25⟩
    ·
      have h20p : ¬ ((vget img l r6.1) > 1) := of_decide_eq_false h20
      replace hm := ite_no hm h20p
      refine W.skip ?_
      refine hK18 _ _ ?_
      clear hK18
      refine W.seq fun K26 hK26 => ?_
      refine W.region ?_
      refine ops_run 4 (by kernel_rfl) ?_
      obtain ⟨h27, hm⟩ := need_some hm
      refine ops_val (v := .int .i64 (IntKind.i64.wrap (r6.1 + 1))) (v' := .int .i64 (r6.1 + 1)) (by kernel_rfl) (congrArg (Value.int .i64) (wrap_i64 h27.1 h27.2)) ?_
      refine ops_call0 hs17 (by kernel_rfl) (get_spec (at_ := (r6.1 + 1)) (hv := (viewAt_old hs17 hv)) B _) ?_
      rintro _ _ w28 ⟨rfl, rfl⟩ hs29
      have hs30 := St.ap0 hs29
      refine ops_run 2 (by kernel_rfl) ?_
      obtain ⟨h31, hm⟩ := need_some hm
      refine ops_val (v := .int .i64 (IntKind.i64.wrap (r6.1 + 2))) (v' := .int .i64 (r6.1 + 2)) (by kernel_rfl) (congrArg (Value.int .i64) (wrap_i64 h31.1 h31.2)) ?_
      refine ops_call0 hs30 (by kernel_rfl) (get_spec (at_ := (r6.1 + 2)) (hv := (viewAt_old hs30 hv)) B _) ?_
      rintro _ _ w32 ⟨rfl, rfl⟩ hs33
      have hs34 := St.ap0 hs33
      refine ops_run 1 (by kernel_rfl) ?_
      refine ops_store (off := 0) (cs := [(.bool false), (.int .u64 0), (.int .u64 0)]) (vs := [(.bool (decide ((vget img l r6.1) = 1))), (.int .u64 (vget img l (r6.1 + 1))), (.int .u64 (vget img l (r6.1 + 2)))]) hs34 (by kernel_rfl) (by simp) rfl (fun w35 hs36 => ?_)
      have hs37 : St B w [] w35 [blk b4 (.cells [(.bool (decide ((vget img l r6.1) = 1))), (.int .u64 (vget img l (r6.1 + 1))), (.int .u64 (vget img l (r6.1 + 2)))].toArray 48 (0, 0))] := hs36
      refine ops_run 1 (by kernel_rfl) ?_
      refine ops_done (by kernel_rfl) ?_
      refine hK26 _ _ ?_
      clear hK26
      refine W.ret ?_
      obtain rfl := some_inj hm
      have hs38 := St.tk0 hs37
      refine ret_of (.tuple #[(.agg #[(.bool (decide ((vget img l r6.1) = 1))), (.int .u64 (vget img l (r6.1 + 1))), (.int .u64 (vget img l (r6.1 + 2)))]), (.int .i64 0)]) (resS_of (by kernel_rfl) (resD_two rfl (.agg (ad := ⟨b4, 0, none⟩) (cs := [(.bool (decide ((vget img l r6.1) = 1))), (.int .u64 (vget img l (r6.1 + 1))), (.int .u64 (vget img l (r6.1 + 2)))]) (by kernel_rfl) (by kernel_rfl) (cells_sub (hs37.heapAt 0 rfl) rfl)) (.tmp (by kernel_rfl)))) ⟨_, ⟨rfl, rfl⟩, hs38⟩
  ·
    have h13p : ¬ (r6.2 = 0) := of_decide_eq_false (bnot_true h13)
    replace hm := ite_no hm h13p
    refine W.seq fun K39 hK39 => ?_
    refine W.region ?_
    refine ops_run 2 (by kernel_rfl) ?_
    refine ops_store (off := 0) (cs := [(.bool false), (.int .u64 0), (.int .u64 0)]) (vs := [(.bool false), (.int .u64 0), (.int .u64 0)]) hs10 (by kernel_rfl) (by simp) rfl (fun w40 hs41 => ?_)
    have hs42 : St B w [] w40 [blk b4 (.cells [(.bool false), (.int .u64 0), (.int .u64 0)].toArray 48 (0, 0))] := hs41
    refine ops_run 1 (by kernel_rfl) ?_
    refine ops_done (by kernel_rfl) ?_
    refine hK39 _ _ ?_
    clear hK39
    refine W.ret (ret_seq ?_)
    obtain rfl := some_inj hm
    have hs43 := St.tk0 hs42
    refine ret_of (.tuple #[(.agg #[(.bool false), (.int .u64 0), (.int .u64 0)]), (.int .i64 r6.2)]) (resS_of (by kernel_rfl) (resD_two rfl (.agg (ad := ⟨b4, 0, none⟩) (cs := [(.bool false), (.int .u64 0), (.int .u64 0)]) (by kernel_rfl) (by kernel_rfl) (cells_sub (hs42.heapAt 0 rfl) rfl)) (.tmp (by kernel_rfl)))) ⟨_, ⟨rfl, rfl⟩, hs43⟩

def sput_J1 (img : List Int) (l : List (Int × Int)) (hg_ : Int) (hk_ : Int) (r6 : Int × Int) (p15 : Int) : Option (Int × List (Int × Int)) :=
  need (-9223372036854775808 ≤ (r6.1 + 1) ∧ (r6.1 + 1) ≤ 9223372036854775807) <|
need (-9223372036854775808 ≤ (r6.1 + 2) ∧ (r6.1 + 2) ≤ 9223372036854775807) <|
(some (vsets img l ([(r6.1, p15), ((r6.1 + 1), hg_), ((r6.1 + 2), hk_)]))).bind fun r58 =>
some (r58.1, r58.2)

def sput_M (img : List Int) (l : List (Int × Int)) (i_ : Int) (ho_ : Bool) (hg_ : Int) (hk_ : Int) : Option (Int × List (Int × Int)) :=
  (ssess_M img i_).bind fun r6 =>
if r6.2 = 0 then (if ho_ = true then (sput_J1 img l hg_ hk_ r6 1) else (sput_J1 img l hg_ hk_ r6 0)) else (some (r6.2, l))

set_option maxRecDepth 20000 in
set_option maxHeartbeats 2000000 in
set_option linter.unusedVariables false in
theorem sput_walk {img : List Int} {l : List (Int × Int)} {i_ : Int} {ho_ : Bool} {hg_ : Int} {hk_ : Int} {vb : Nat} {r : Int × List (Int × Int)} (B : Nat) (w : World) (hG2 : 1 < B) (hL : CellsAt (some ⟨1, 0, none⟩) [(.int .i64 1), (.int .i64 2), (.int .i64 2)] w) (hm : sput_M img l i_ ho_ hg_ hk_ = some r) : Spec Tryd.prog 32 #[(.pointer (some ⟨vb, 0, none⟩)), (.int .i64 i_), (.agg #[(.bool ho_), (.int .u64 hg_), (.int .u64 hk_)])] B w [viewA (ptr vb) img l] (fun v H' => v = (.int .i64 r.1) ∧ H' = [viewA (ptr vb) img r.2]) := by
  refine spec_W Tryd.func32 rfl fun l0 hs => ?_
  unfold sput_M at hm
  refine W.seq fun K1 hK1 => ?_
  refine W.region ?_
  refine ops_new (fun b => .pointer (some ⟨b, 0, none⟩)) (.cells [(.bool ho_), (.int .u64 hg_), (.int .u64 hk_)].toArray 48 (0, 0)) hs (by kernel_rfl) (fun b4 w2 hs3 => ?_)
  refine ops_run 1 (by kernel_rfl) ?_
  refine ops_done (by kernel_rfl) ?_
  refine hK1 _ _ ?_
  clear hK1
  refine W.seq fun K5 hK5 => ?_
  refine W.region ?_
  refine ops_run 2 (by kernel_rfl) ?_
  obtain ⟨r6, h7, hm⟩ := bind_some hm
  refine ops_call0 hs3 (by kernel_rfl) (ssess_walk (i_ := i_) (img := img) (l := l) (hL := (hs3.oldCellsB hG2 hL)) (hv := (hs3.entAt 1 rfl viewA_at)) (hm := h7) B _) ?_
  rintro _ _ w8 ⟨rfl, rfl⟩ hs9
  have hs10 := St.ap0 hs9
  refine ops_run 5 (by kernel_rfl) ?_
  refine ops_done (by kernel_rfl) ?_
  refine hK5 _ _ ?_
  clear hK5
  refine W.seq fun K11 hK11 => ?_
  refine W.seq fun K12 hK12 => ?_
  refine W.region ?_
  refine ops_run 2 (by kernel_rfl) ?_
  refine ops_done (by kernel_rfl) ?_
  refine hK12 _ _ ?_
  clear hK12
  refine W.cond (!decide (r6.2 = 0)) (by kernel_rfl) (fun h13 => ?_) (fun h13 => ?_)
  rotate_left
  ·
    have h13p : r6.2 = 0 := of_decide_eq_true (bnot_false h13)
    replace hm := ite_yes hm h13p
    refine W.skip ?_
    refine hK11 _ _ ?_
    clear hK11
    refine W.seq fun K14 hK14 => ?_
    refine W.region ?_
    refine ops_run 1 (by kernel_rfl) ?_
    refine ops_done (by kernel_rfl) ?_
    refine hK14 _ _ ?_
    clear hK14
    refine W.seq_join (fun s_ w_ => ∃ (p15 : Int), (∃ us, s_ = slots 37 [(0, (.pointer (some ⟨vb, 0, none⟩))), (5, (.pointer (some ⟨b4, 0, none⟩))), (7, (.int .i64 r6.1)), (9, (.int .u64 p15))] us) ∧ St B w l0 w_ [viewA (ptr vb) img l, blk b4 (.cells [(.bool ho_), (.int .u64 hg_), (.int .u64 hk_)].toArray 48 (0, 0))] ∧ sput_J1 img l hg_ hk_ r6 p15 = some r) ?_ ?_
    ·
      rintro _ w16 ⟨p15, ⟨us, rfl⟩, hs17, hm⟩
      unfold sput_J1 at hm
      refine W.seq fun K18 hK18 => ?_
      have hs19 := hs17.drew
      have hs20 := St.f1 hs19
      have hs21 := St.tk1 hs20
      refine W.regionD [(0, 0), (0, 0), (0, 0), (6, 6), (0, 0), (16, 16), (0, 0), (64, 64), (168, 160), (0, 0), (512, 512), (0, 0), (2048, 2048), (5376, 5120), (8456, 8456), (24577, 16385), (65535, 32768)] (fun w_ => St B w l0 w_ [blk b4 (.cells [(.bool ho_), (.int .u64 hg_), (.int .u64 hk_)].toArray 48 (0, 0))]) (by kernel_rfl) hs21 ?_
      refine any_val (v := (.pointer (some ⟨vb, 0, none⟩))) (v' := (.pointer (some ⟨vb, 0, none⟩))) 0 (by kernel_rfl) (fun _ => by kernel_rfl) rfl hs21 ?_
      refine any_val (v := (.int .i64 r6.1)) (v' := (.int .i64 r6.1)) 1 (by kernel_rfl) (fun _ => by kernel_rfl) rfl hs21 ?_
      refine any_val (v := (.int .u64 p15)) (v' := (.int .u64 p15)) 2 (by kernel_rfl) (fun _ => by kernel_rfl) rfl hs21 ?_
      refine any_val (v := (.int .i64 r6.1)) (v' := (.int .i64 r6.1)) 4 (by kernel_rfl) (fun _ => by kernel_rfl) rfl hs21 ?_
      obtain ⟨h22, hm⟩ := need_some hm
      refine any_val (v := .int .i64 (IntKind.i64.wrap (r6.1 + 1))) (v' := .int .i64 (r6.1 + 1)) 5 (by kernel_rfl) (fun _ => by kernel_rfl) (congrArg (Value.int .i64) (wrap_i64 h22.1 h22.2)) hs21 ?_
      refine any_val (v := (.pointer (some ⟨b4, 1, none⟩))) (v' := (.pointer (some ⟨b4, 1, none⟩))) 6 (by kernel_rfl) (fun _ => by kernel_rfl) rfl hs21 ?_
      refine any_R 7 (by kernel_rfl) (fun _ hS_ => runs_load (ad := ⟨b4, 1, none⟩) (v := (.int .u64 hg_)) (by kernel_rfl) (hS_.cellAt 0 rfl rfl)) hs21 ?_
      refine any_val (v := (.int .i64 r6.1)) (v' := (.int .i64 r6.1)) 9 (by kernel_rfl) (fun _ => by kernel_rfl) rfl hs21 ?_
      obtain ⟨h23, hm⟩ := need_some hm
      refine any_val (v := .int .i64 (IntKind.i64.wrap (r6.1 + 2))) (v' := .int .i64 (r6.1 + 2)) 10 (by kernel_rfl) (fun _ => by kernel_rfl) (congrArg (Value.int .i64) (wrap_i64 h23.1 h23.2)) hs21 ?_
      refine any_val (v := (.pointer (some ⟨b4, 2, none⟩))) (v' := (.pointer (some ⟨b4, 2, none⟩))) 11 (by kernel_rfl) (fun _ => by kernel_rfl) rfl hs21 ?_
      refine any_R 12 (by kernel_rfl) (fun _ hS_ => runs_load (ad := ⟨b4, 2, none⟩) (v := (.int .u64 hk_)) (by kernel_rfl) (hS_.cellAt 0 rfl rfl)) hs21 ?_
      refine any_step 3 (by kernel_rfl) (by kernel_rfl) ?_
      refine ops_call0 hs19 (by kernel_rfl) (word_spec (at_ := r6.1) (x_ := p15) B _) ?_
      rintro _ _ w26 ⟨b24, b25, rfl, rfl⟩ hs27
      have hs28 := St.ap2 hs27
      have hs29 := St.f3 hs28
      have hs30 := St.tk1 hs29
      refine ops_done (by kernel_rfl) ⟨hs30, ?_⟩
      refine any_step 8 (by kernel_rfl) (by kernel_rfl) ?_
      refine ops_call0 hs28 (by kernel_rfl) (word_spec (at_ := (r6.1 + 1)) (x_ := hg_) B _) ?_
      rintro _ _ w33 ⟨b31, b32, rfl, rfl⟩ hs34
      have hs35 := St.ap2 hs34
      have hs36 := St.f5 hs35
      have hs37 := St.tk1 hs36
      refine ops_done (by kernel_rfl) ⟨hs37, ?_⟩
      refine any_step 13 (by kernel_rfl) (by kernel_rfl) ?_
      refine ops_call0 hs35 (by kernel_rfl) (word_spec (at_ := (r6.1 + 2)) (x_ := hk_) B _) ?_
      rintro _ _ w40 ⟨b38, b39, rfl, rfl⟩ hs41
      have hs42 := St.ap2 hs41
      have hs43 := St.f7 hs42
      have hs44 := St.tk1 hs43
      refine ops_done (by kernel_rfl) ⟨hs44, ?_⟩
      refine any_step 14 (by kernel_rfl) (by kernel_rfl) ?_
      refine ops_new (fun b => .slice (some ⟨b, 0, none⟩) 3 3) (.cells [(.func (.func 144) #[] #[(.pointer (some ⟨b24, 0, none⟩)), (.pointer (some ⟨b25, 0, none⟩))]), (.func (.func 144) #[] #[(.pointer (some ⟨b31, 0, none⟩)), (.pointer (some ⟨b32, 0, none⟩))]), (.func (.func 144) #[] #[(.pointer (some ⟨b38, 0, none⟩)), (.pointer (some ⟨b39, 0, none⟩))])].toArray 172 (0, 0)) hs42 (by kernel_rfl) (fun b47 w45 hs46 => ?_)
      have hs48 := St.f8 hs46
      have hs49 := St.tk1 hs48
      refine ops_done (by kernel_rfl) ⟨hs49, ?_⟩
      refine any_step 15 (by kernel_rfl) (by kernel_rfl) ?_
      have hs50 := St.f2 hs46
      have hs51 := St.f2 hs50
      have hs52 := St.f4 hs51
      have hs53 := St.f4 hs52
      have hs54 := St.f6 hs53
      have hs55 := St.f6 hs54
      have hs56 := St.f6 hs55
      have hs57 := St.steps_three hs56
      obtain ⟨r58, h59, hm⟩ := bind_some hm
      replace h59 := some_inj h59
      have hs62 := St.f1 hs57
      refine ops_call2 hs62 (by kernel_rfl) (row_spec (b := vb) (img := img) (l := l) (a := (some ⟨b47, 0, none⟩)) (c := 3) (n := 3) (xs := [(r6.1, p15), ((r6.1 + 1), hg_), ((r6.1 + 2), hk_)]) (hn := rfl) (hsz := (by simp only [List.length_cons, List.length_nil]; omega)) B _) ?_
      rintro _ _ w63 ⟨hv60, hH61⟩ hs64
      rw [h59] at hv60
      try rw [h59] at hH61
      subst hv60 hH61
      have hs65 := St.ap1 hs64
      have hs66 := St.f1 hs65
      have hs67 := St.tk1 hs66
      refine ops_done (by kernel_rfl) ⟨hs67, ?_⟩
      refine any_val (v := (.int .i64 r58.1)) (v' := (.int .i64 r58.1)) 16 (by kernel_rfl) (fun _ => by kernel_rfl) rfl hs67 ?_
      refine any_done (by kernel_rfl) ?_
      refine hK18 _ _ ?_
      clear hK18
      refine W.ret ?_
      obtain rfl := some_inj hm
      have hs68 := St.tk1 hs65
      refine ret_of (.int .i64 r58.1) (by kernel_rfl) ⟨_, ⟨rfl, rfl⟩, hs68⟩
    ·
      refine W.seq fun K69 hK69 => ?_
      refine W.region ?_
      refine ops_run 1 (by kernel_rfl) ?_
      refine ops_R (runs_load (ad := ⟨b4, 0, none⟩) (v := (.bool ho_)) (by kernel_rfl) (hs10.cellAt 0 rfl rfl)) ?_
      refine ops_done (by kernel_rfl) ?_
      refine hK69 _ _ ?_
      clear hK69
      refine W.cond ho_ (by kernel_rfl) (fun h70 => ?_) (fun h70 => ?_)
      ·
        have h70p : ho_ = true := h70
        replace hm := ite_yes hm h70p
        refine W.region ?_
        refine ops_run 1 (by kernel_rfl) ?_
        refine ops_done (by kernel_rfl) ?_
        have hs71 := St.f1 hs10
        exact ⟨1, slots_intro _ (by kernel_rfl), hs71, hm⟩
      ·
        have h70p : ¬ (ho_ = true) := ne_true_of_eq_false h70
        replace hm := ite_no hm h70p
        refine W.skip ?_
        have hs72 := St.f1 hs10
        exact ⟨0, slots_intro _ (by kernel_rfl), hs72, hm⟩
  ·
    have h13p : ¬ (r6.2 = 0) := of_decide_eq_false (bnot_true h13)
    replace hm := ite_no hm h13p
    refine W.seq fun K73 hK73 => ?_
    refine W.region ?_
    refine ops_run 2 (by kernel_rfl) ?_
    refine ops_done (by kernel_rfl) ?_
    refine hK73 _ _ ?_
    clear hK73
    refine W.ret (ret_seq ?_)
    obtain rfl := some_inj hm
    have hs74 := St.f1 hs10
    have hs75 := St.tk1 hs74
    refine ret_of (.int .i64 r6.2) (by kernel_rfl) ⟨_, ⟨rfl, rfl⟩, hs75⟩

def swipe_M (img : List Int) (l : List (Int × Int)) (i_ : Int) : Option (Int × List (Int × Int)) :=
  (ssess_M img i_).bind fun r3 =>
if r3.2 = 0 then (need (-9223372036854775808 ≤ ((descAt i_ 0) + 1) ∧ ((descAt i_ 0) + 1) ≤ 9223372036854775807) <|
need (-9223372036854775808 ≤ ((descAt i_ 1) + 1) ∧ ((descAt i_ 1) + 1) ≤ 9223372036854775807) <|
need (-9223372036854775808 ≤ ((descAt i_ 2) + 1) ∧ ((descAt i_ 2) + 1) ≤ 9223372036854775807) <|
need (-9223372036854775808 ≤ ((descAt i_ 3) + 1) ∧ ((descAt i_ 3) + 1) ≤ 9223372036854775807) <|
(some (vsets img l ([((slotAt i_ 0), 0), ((slotAt i_ 1), 0), ((slotAt i_ 2), 0), ((slotAt i_ 3), 0), ((descAt i_ 0), 0), (((descAt i_ 0) + 1), 0), ((descAt i_ 1), 0), (((descAt i_ 1) + 1), 0), ((descAt i_ 2), 0), (((descAt i_ 2) + 1), 0), ((descAt i_ 3), 0), (((descAt i_ 3) + 1), 0)]))).bind fun r250 =>
some (r250.1, r250.2)) else (some (r3.2, l))

set_option maxRecDepth 20000 in
set_option maxHeartbeats 2000000 in
set_option linter.unusedVariables false in
theorem swipe_walk {img : List Int} {l : List (Int × Int)} {i_ : Int} {vb : Nat} {r : Int × List (Int × Int)} (B : Nat) (w : World) (hG2 : 1 < B) (hL : CellsAt (some ⟨1, 0, none⟩) [(.int .i64 1), (.int .i64 2), (.int .i64 2)] w) (hm : swipe_M img l i_ = some r) : Spec Tryd.prog 34 #[(.pointer (some ⟨vb, 0, none⟩)), (.int .i64 i_)] B w [viewA (ptr vb) img l] (fun v H' => v = (.int .i64 r.1) ∧ H' = [viewA (ptr vb) img r.2]) := by
  refine spec_W Tryd.func34 rfl fun l0 hs => ?_
  unfold swipe_M at hm
  refine W.seq fun K1 hK1 => ?_
  refine W.region ?_
  refine ops_run 1 (by kernel_rfl) ?_
  refine ops_done (by kernel_rfl) ?_
  refine hK1 _ _ ?_
  clear hK1
  refine W.seq fun K2 hK2 => ?_
  refine W.region ?_
  refine ops_run 2 (by kernel_rfl) ?_
  obtain ⟨r3, h4, hm⟩ := bind_some hm
  refine ops_call0 hs (by kernel_rfl) (ssess_walk (i_ := i_) (img := img) (l := l) (hL := (hs.oldCellsB hG2 hL)) (hv := (hs.entAt 0 rfl viewA_at)) (hm := h4) B _) ?_
  rintro _ _ w5 ⟨rfl, rfl⟩ hs6
  have hs7 := St.ap0 hs6
  refine ops_run 5 (by kernel_rfl) ?_
  refine ops_done (by kernel_rfl) ?_
  refine hK2 _ _ ?_
  clear hK2
  refine W.seq fun K8 hK8 => ?_
  refine W.seq fun K9 hK9 => ?_
  refine W.region ?_
  refine ops_run 2 (by kernel_rfl) ?_
  refine ops_done (by kernel_rfl) ?_
  refine hK9 _ _ ?_
  clear hK9
  refine W.cond (!decide (r3.2 = 0)) (by kernel_rfl) (fun h10 => ?_) (fun h10 => ?_)
  rotate_left
  ·
    have h10p : r3.2 = 0 := of_decide_eq_true (bnot_false h10)
    replace hm := ite_yes hm h10p
    refine W.skip ?_
    refine hK8 _ _ ?_
    clear hK8
    refine W.seq fun K11 hK11 => ?_
    refine W.region ?_
    refine ops_run 1 (by kernel_rfl) ?_
    refine ops_done (by kernel_rfl) ?_
    refine hK11 _ _ ?_
    clear hK11
    refine W.seq fun K12 hK12 => ?_
    refine W.seq fun K13 hK13 => ?_
    refine W.region ?_
    refine ops_run 1 (by kernel_rfl) ?_
    refine ops_done (by kernel_rfl) ?_
    refine hK13 _ _ ?_
    clear hK13
    refine W.block ?_
    refine W.loop_start ?_
    refine loopAt_round ?_
    refine W.seq fun K14 hK14 => ?_
    refine W.region ?_
    refine ops_run 1 (by kernel_rfl) ?_
    refine ops_done (by kernel_rfl) ?_
    refine hK14 _ _ ?_
    clear hK14
    refine W.seq fun K15 hK15 => ?_
    refine W.cond_true true (by kernel_rfl) rfl ?_
    refine W.skip ?_
    refine hK15 _ _ ?_
    clear hK15
    refine W.seq fun K16 hK16 => ?_
    refine W.block ?_
    refine W.seq fun K17 hK17 => ?_
    refine W.region ?_
    refine ops_run 2 (by kernel_rfl) ?_
    refine ops_done (by kernel_rfl) ?_
    refine hK17 _ _ ?_
    clear hK17
    refine W.region ?_
    refine ops_run 3 (by kernel_rfl) ?_
    refine ops_call0 hs7 (by kernel_rfl) (slotat_spec (i_ := i_) (k_ := 0) (hL := (hs7.oldCellsB hG2 hL)) B _) ?_
    rintro _ _ w18 ⟨rfl, rfl⟩ hs19
    have hs20 := St.ap0 hs19
    refine ops_call0 hs20 (by kernel_rfl) (word_spec (at_ := (slotAt i_ 0)) (x_ := 0) B _) ?_
    rintro _ _ w23 ⟨b21, b22, rfl, rfl⟩ hs24
    have hs25 := St.ap2 hs24
    refine ops_new (fun b => .slice (some ⟨b, 0, none⟩) 1 1) (.cells [(.func (.func 144) #[] #[(.pointer (some ⟨b21, 0, none⟩)), (.pointer (some ⟨b22, 0, none⟩))])].toArray 172 (0, 0)) hs25 (by kernel_rfl) (fun b28 w26 hs27 => ?_)
    have hs29 := St.steps_nil hs27
    have hs30 := St.f3 hs29
    have hs31 := St.f3 hs30
    have hs32 := St.f3 hs31
    have hs33 := St.f3 hs32
    refine ops_appendSteps (bytes := 8) (a := none) (c := 0) (sb := b28) (b1 := b21) (b2 := b22) (xs := []) (x := (slotAt i_ 0)) (y := 0) hs33 (by kernel_rfl) (by unfold maxLen; simp only [List.length_cons, List.length_nil]; omega) (by simp only [List.length_cons, List.length_nil]; omega) (fun a34 c35 w36 hs37 => ?_)
    have hs38 : St B w l0 w36 [stepsA a34 c35 ([((slotAt i_ 0), 0)]), viewA (ptr vb) img l] := hs37
    refine ops_run 1 (by kernel_rfl) ?_
    refine ops_done (by kernel_rfl) ?_
    refine normal_block ?_
    refine hK16 _ _ ?_
    clear hK16
    refine W.region ?_
    refine ops_run 2 (by kernel_rfl) ?_
    refine ops_done (by kernel_rfl) ?_
    refine loopAt_next ?_
    refine loopAt_round ?_
    refine W.seq fun K39 hK39 => ?_
    refine W.region ?_
    refine ops_run 1 (by kernel_rfl) ?_
    refine ops_done (by kernel_rfl) ?_
    refine hK39 _ _ ?_
    clear hK39
    refine W.seq fun K40 hK40 => ?_
    refine W.cond_true true (by kernel_rfl) rfl ?_
    refine W.skip ?_
    refine hK40 _ _ ?_
    clear hK40
    refine W.seq fun K41 hK41 => ?_
    refine W.block ?_
    refine W.seq fun K42 hK42 => ?_
    refine W.region ?_
    refine ops_run 2 (by kernel_rfl) ?_
    refine ops_done (by kernel_rfl) ?_
    refine hK42 _ _ ?_
    clear hK42
    refine W.region ?_
    refine ops_run 3 (by kernel_rfl) ?_
    refine ops_call0 hs38 (by kernel_rfl) (slotat_spec (i_ := i_) (k_ := 1) (hL := (hs38.oldCellsB hG2 hL)) B _) ?_
    rintro _ _ w43 ⟨rfl, rfl⟩ hs44
    have hs45 := St.ap0 hs44
    refine ops_call0 hs45 (by kernel_rfl) (word_spec (at_ := (slotAt i_ 1)) (x_ := 0) B _) ?_
    rintro _ _ w48 ⟨b46, b47, rfl, rfl⟩ hs49
    have hs50 := St.ap2 hs49
    refine ops_new (fun b => .slice (some ⟨b, 0, none⟩) 1 1) (.cells [(.func (.func 144) #[] #[(.pointer (some ⟨b46, 0, none⟩)), (.pointer (some ⟨b47, 0, none⟩))])].toArray 172 (0, 0)) hs50 (by kernel_rfl) (fun b53 w51 hs52 => ?_)
    have hs54 := St.f2 hs52
    have hs55 := St.f2 hs54
    have hs56 := St.f2 hs55
    have hs57 := St.f3 hs56
    refine ops_appendSteps (bytes := 8) (a := a34) (c := c35) (sb := b53) (b1 := b46) (b2 := b47) (xs := [((slotAt i_ 0), 0)]) (x := (slotAt i_ 1)) (y := 0) hs57 (by kernel_rfl) (by unfold maxLen; simp only [List.length_cons, List.length_nil]; omega) (by simp only [List.length_cons, List.length_nil]; omega) (fun a58 c59 w60 hs61 => ?_)
    have hs62 : St B w l0 w60 [stepsA a58 c59 ([((slotAt i_ 0), 0), ((slotAt i_ 1), 0)]), viewA (ptr vb) img l] := hs61
    refine ops_run 1 (by kernel_rfl) ?_
    refine ops_done (by kernel_rfl) ?_
    refine normal_block ?_
    refine hK41 _ _ ?_
    clear hK41
    refine W.region ?_
    refine ops_run 2 (by kernel_rfl) ?_
    refine ops_done (by kernel_rfl) ?_
    refine loopAt_next ?_
    refine loopAt_round ?_
    refine W.seq fun K63 hK63 => ?_
    refine W.region ?_
    refine ops_run 1 (by kernel_rfl) ?_
    refine ops_done (by kernel_rfl) ?_
    refine hK63 _ _ ?_
    clear hK63
    refine W.seq fun K64 hK64 => ?_
    refine W.cond_true true (by kernel_rfl) rfl ?_
    refine W.skip ?_
    refine hK64 _ _ ?_
    clear hK64
    refine W.seq fun K65 hK65 => ?_
    refine W.block ?_
    refine W.seq fun K66 hK66 => ?_
    refine W.region ?_
    refine ops_run 2 (by kernel_rfl) ?_
    refine ops_done (by kernel_rfl) ?_
    refine hK66 _ _ ?_
    clear hK66
    refine W.region ?_
    refine ops_run 3 (by kernel_rfl) ?_
    refine ops_call0 hs62 (by kernel_rfl) (slotat_spec (i_ := i_) (k_ := 2) (hL := (hs62.oldCellsB hG2 hL)) B _) ?_
    rintro _ _ w67 ⟨rfl, rfl⟩ hs68
    have hs69 := St.ap0 hs68
    refine ops_call0 hs69 (by kernel_rfl) (word_spec (at_ := (slotAt i_ 2)) (x_ := 0) B _) ?_
    rintro _ _ w72 ⟨b70, b71, rfl, rfl⟩ hs73
    have hs74 := St.ap2 hs73
    refine ops_new (fun b => .slice (some ⟨b, 0, none⟩) 1 1) (.cells [(.func (.func 144) #[] #[(.pointer (some ⟨b70, 0, none⟩)), (.pointer (some ⟨b71, 0, none⟩))])].toArray 172 (0, 0)) hs74 (by kernel_rfl) (fun b77 w75 hs76 => ?_)
    have hs78 := St.f2 hs76
    have hs79 := St.f2 hs78
    have hs80 := St.f2 hs79
    have hs81 := St.f3 hs80
    refine ops_appendSteps (bytes := 8) (a := a58) (c := c59) (sb := b77) (b1 := b70) (b2 := b71) (xs := [((slotAt i_ 0), 0), ((slotAt i_ 1), 0)]) (x := (slotAt i_ 2)) (y := 0) hs81 (by kernel_rfl) (by unfold maxLen; simp only [List.length_cons, List.length_nil]; omega) (by simp only [List.length_cons, List.length_nil]; omega) (fun a82 c83 w84 hs85 => ?_)
    have hs86 : St B w l0 w84 [stepsA a82 c83 ([((slotAt i_ 0), 0), ((slotAt i_ 1), 0), ((slotAt i_ 2), 0)]), viewA (ptr vb) img l] := hs85
    refine ops_run 1 (by kernel_rfl) ?_
    refine ops_done (by kernel_rfl) ?_
    refine normal_block ?_
    refine hK65 _ _ ?_
    clear hK65
    refine W.region ?_
    refine ops_run 2 (by kernel_rfl) ?_
    refine ops_done (by kernel_rfl) ?_
    refine loopAt_next ?_
    refine loopAt_round ?_
    refine W.seq fun K87 hK87 => ?_
    refine W.region ?_
    refine ops_run 1 (by kernel_rfl) ?_
    refine ops_done (by kernel_rfl) ?_
    refine hK87 _ _ ?_
    clear hK87
    refine W.seq fun K88 hK88 => ?_
    refine W.cond_true true (by kernel_rfl) rfl ?_
    refine W.skip ?_
    refine hK88 _ _ ?_
    clear hK88
    refine W.seq fun K89 hK89 => ?_
    refine W.block ?_
    refine W.seq fun K90 hK90 => ?_
    refine W.region ?_
    refine ops_run 2 (by kernel_rfl) ?_
    refine ops_done (by kernel_rfl) ?_
    refine hK90 _ _ ?_
    clear hK90
    refine W.region ?_
    refine ops_run 3 (by kernel_rfl) ?_
    refine ops_call0 hs86 (by kernel_rfl) (slotat_spec (i_ := i_) (k_ := 3) (hL := (hs86.oldCellsB hG2 hL)) B _) ?_
    rintro _ _ w91 ⟨rfl, rfl⟩ hs92
    have hs93 := St.ap0 hs92
    refine ops_call0 hs93 (by kernel_rfl) (word_spec (at_ := (slotAt i_ 3)) (x_ := 0) B _) ?_
    rintro _ _ w96 ⟨b94, b95, rfl, rfl⟩ hs97
    have hs98 := St.ap2 hs97
    refine ops_new (fun b => .slice (some ⟨b, 0, none⟩) 1 1) (.cells [(.func (.func 144) #[] #[(.pointer (some ⟨b94, 0, none⟩)), (.pointer (some ⟨b95, 0, none⟩))])].toArray 172 (0, 0)) hs98 (by kernel_rfl) (fun b101 w99 hs100 => ?_)
    have hs102 := St.f2 hs100
    have hs103 := St.f2 hs102
    have hs104 := St.f2 hs103
    have hs105 := St.f3 hs104
    refine ops_appendSteps (bytes := 8) (a := a82) (c := c83) (sb := b101) (b1 := b94) (b2 := b95) (xs := [((slotAt i_ 0), 0), ((slotAt i_ 1), 0), ((slotAt i_ 2), 0)]) (x := (slotAt i_ 3)) (y := 0) hs105 (by kernel_rfl) (by unfold maxLen; simp only [List.length_cons, List.length_nil]; omega) (by simp only [List.length_cons, List.length_nil]; omega) (fun a106 c107 w108 hs109 => ?_)
    have hs110 : St B w l0 w108 [stepsA a106 c107 ([((slotAt i_ 0), 0), ((slotAt i_ 1), 0), ((slotAt i_ 2), 0), ((slotAt i_ 3), 0)]), viewA (ptr vb) img l] := hs109
    refine ops_run 1 (by kernel_rfl) ?_
    refine ops_done (by kernel_rfl) ?_
    refine normal_block ?_
    refine hK89 _ _ ?_
    clear hK89
    refine W.region ?_
    refine ops_run 2 (by kernel_rfl) ?_
    refine ops_done (by kernel_rfl) ?_
    refine loopAt_next ?_
    refine loopAt_round ?_
    refine W.seq fun K111 hK111 => ?_
    refine W.region ?_
    refine ops_run 1 (by kernel_rfl) ?_
    refine ops_done (by kernel_rfl) ?_
    refine hK111 _ _ ?_
    clear hK111
    refine W.seq fun K112 hK112 => ?_
    refine W.cond_false false (by kernel_rfl) rfl ?_
    refine W.exit (exit_seq (exit_seq (exit_here ?_)))
    refine hK12 _ _ ?_
    clear hK12
    refine W.seq fun K113 hK113 => ?_
    refine W.seq fun K114 hK114 => ?_
    refine W.region ?_
    refine ops_run 1 (by kernel_rfl) ?_
    refine ops_done (by kernel_rfl) ?_
    refine hK114 _ _ ?_
    clear hK114
    refine W.block ?_
    refine W.loop_start ?_
    refine loopAt_round ?_
    refine W.seq fun K115 hK115 => ?_
    refine W.region ?_
    refine ops_run 1 (by kernel_rfl) ?_
    refine ops_done (by kernel_rfl) ?_
    refine hK115 _ _ ?_
    clear hK115
    refine W.seq fun K116 hK116 => ?_
    refine W.cond_true true (by kernel_rfl) rfl ?_
    refine W.skip ?_
    refine hK116 _ _ ?_
    clear hK116
    refine W.seq fun K117 hK117 => ?_
    refine W.block ?_
    refine W.seq fun K118 hK118 => ?_
    refine W.region ?_
    refine ops_run 2 (by kernel_rfl) ?_
    refine ops_done (by kernel_rfl) ?_
    refine hK118 _ _ ?_
    clear hK118
    refine W.seq fun K119 hK119 => ?_
    refine W.region ?_
    refine ops_run 2 (by kernel_rfl) ?_
    refine ops_call0 hs110 (by kernel_rfl) (descat_spec (i_ := i_) (k_ := 0) (hL := (hs110.oldCellsB hG2 hL)) B _) ?_
    rintro _ _ w120 ⟨rfl, rfl⟩ hs121
    have hs122 := St.ap0 hs121
    refine ops_run 1 (by kernel_rfl) ?_
    refine ops_done (by kernel_rfl) ?_
    refine hK119 _ _ ?_
    clear hK119
    refine W.region ?_
    refine ops_run 2 (by kernel_rfl) ?_
    refine ops_call0 hs122 (by kernel_rfl) (word_spec (at_ := (descAt i_ 0)) (x_ := 0) B _) ?_
    rintro _ _ w125 ⟨b123, b124, rfl, rfl⟩ hs126
    have hs127 := St.ap2 hs126
    refine ops_run 1 (by kernel_rfl) ?_
    obtain ⟨h128, hm⟩ := need_some hm
    refine ops_val (v := .int .i64 (IntKind.i64.wrap ((descAt i_ 0) + 1))) (v' := .int .i64 ((descAt i_ 0) + 1)) (by kernel_rfl) (congrArg (Value.int .i64) (wrap_i64 h128.1 h128.2)) ?_
    refine ops_call0 hs127 (by kernel_rfl) (word_spec (at_ := ((descAt i_ 0) + 1)) (x_ := 0) B _) ?_
    rintro _ _ w131 ⟨b129, b130, rfl, rfl⟩ hs132
    have hs133 := St.ap2 hs132
    refine ops_new (fun b => .slice (some ⟨b, 0, none⟩) 2 2) (.cells [(.func (.func 144) #[] #[(.pointer (some ⟨b123, 0, none⟩)), (.pointer (some ⟨b124, 0, none⟩))]), (.func (.func 144) #[] #[(.pointer (some ⟨b129, 0, none⟩)), (.pointer (some ⟨b130, 0, none⟩))])].toArray 172 (0, 0)) hs133 (by kernel_rfl) (fun b136 w134 hs135 => ?_)
    have hs137 := St.f2 hs135
    have hs138 := St.f2 hs137
    have hs139 := St.f4 hs138
    have hs140 := St.f4 hs139
    have hs141 := St.f4 hs140
    have hs142 := St.f5 hs141
    refine ops_appendSteps2 (bytes := 8) (a := a106) (c := c107) (sb := b136) (b1 := b123) (b2 := b124) (b3 := b129) (b4 := b130) (xs := [((slotAt i_ 0), 0), ((slotAt i_ 1), 0), ((slotAt i_ 2), 0), ((slotAt i_ 3), 0)]) (x := (descAt i_ 0)) (y := 0) (x' := ((descAt i_ 0) + 1)) (y' := 0) hs142 (by kernel_rfl) (by unfold maxLen; simp only [List.length_cons, List.length_nil]; omega) (by simp only [List.length_cons, List.length_nil]; omega) (fun a143 c144 w145 hs146 => ?_)
    have hs147 : St B w l0 w145 [stepsA a143 c144 ([((slotAt i_ 0), 0), ((slotAt i_ 1), 0), ((slotAt i_ 2), 0), ((slotAt i_ 3), 0), ((descAt i_ 0), 0), (((descAt i_ 0) + 1), 0)]), viewA (ptr vb) img l] := hs146
    refine ops_run 1 (by kernel_rfl) ?_
    refine ops_done (by kernel_rfl) ?_
    refine normal_block ?_
    refine hK117 _ _ ?_
    clear hK117
    refine W.region ?_
    refine ops_run 2 (by kernel_rfl) ?_
    refine ops_done (by kernel_rfl) ?_
    refine loopAt_next ?_
    refine loopAt_round ?_
    refine W.seq fun K148 hK148 => ?_
    refine W.region ?_
    refine ops_run 1 (by kernel_rfl) ?_
    refine ops_done (by kernel_rfl) ?_
    refine hK148 _ _ ?_
    clear hK148
    refine W.seq fun K149 hK149 => ?_
    refine W.cond_true true (by kernel_rfl) rfl ?_
    refine W.skip ?_
    refine hK149 _ _ ?_
    clear hK149
    refine W.seq fun K150 hK150 => ?_
    refine W.block ?_
    refine W.seq fun K151 hK151 => ?_
    refine W.region ?_
    refine ops_run 2 (by kernel_rfl) ?_
    refine ops_done (by kernel_rfl) ?_
    refine hK151 _ _ ?_
    clear hK151
    refine W.seq fun K152 hK152 => ?_
    refine W.region ?_
    refine ops_run 2 (by kernel_rfl) ?_
    refine ops_call0 hs147 (by kernel_rfl) (descat_spec (i_ := i_) (k_ := 1) (hL := (hs147.oldCellsB hG2 hL)) B _) ?_
    rintro _ _ w153 ⟨rfl, rfl⟩ hs154
    have hs155 := St.ap0 hs154
    refine ops_run 1 (by kernel_rfl) ?_
    refine ops_done (by kernel_rfl) ?_
    refine hK152 _ _ ?_
    clear hK152
    refine W.region ?_
    refine ops_run 2 (by kernel_rfl) ?_
    refine ops_call0 hs155 (by kernel_rfl) (word_spec (at_ := (descAt i_ 1)) (x_ := 0) B _) ?_
    rintro _ _ w158 ⟨b156, b157, rfl, rfl⟩ hs159
    have hs160 := St.ap2 hs159
    refine ops_run 1 (by kernel_rfl) ?_
    obtain ⟨h161, hm⟩ := need_some hm
    refine ops_val (v := .int .i64 (IntKind.i64.wrap ((descAt i_ 1) + 1))) (v' := .int .i64 ((descAt i_ 1) + 1)) (by kernel_rfl) (congrArg (Value.int .i64) (wrap_i64 h161.1 h161.2)) ?_
    refine ops_call0 hs160 (by kernel_rfl) (word_spec (at_ := ((descAt i_ 1) + 1)) (x_ := 0) B _) ?_
    rintro _ _ w164 ⟨b162, b163, rfl, rfl⟩ hs165
    have hs166 := St.ap2 hs165
    refine ops_new (fun b => .slice (some ⟨b, 0, none⟩) 2 2) (.cells [(.func (.func 144) #[] #[(.pointer (some ⟨b156, 0, none⟩)), (.pointer (some ⟨b157, 0, none⟩))]), (.func (.func 144) #[] #[(.pointer (some ⟨b162, 0, none⟩)), (.pointer (some ⟨b163, 0, none⟩))])].toArray 172 (0, 0)) hs166 (by kernel_rfl) (fun b169 w167 hs168 => ?_)
    have hs170 := St.f2 hs168
    have hs171 := St.f2 hs170
    have hs172 := St.f4 hs171
    have hs173 := St.f4 hs172
    have hs174 := St.f4 hs173
    have hs175 := St.f5 hs174
    refine ops_appendSteps2 (bytes := 8) (a := a143) (c := c144) (sb := b169) (b1 := b156) (b2 := b157) (b3 := b162) (b4 := b163) (xs := [((slotAt i_ 0), 0), ((slotAt i_ 1), 0), ((slotAt i_ 2), 0), ((slotAt i_ 3), 0), ((descAt i_ 0), 0), (((descAt i_ 0) + 1), 0)]) (x := (descAt i_ 1)) (y := 0) (x' := ((descAt i_ 1) + 1)) (y' := 0) hs175 (by kernel_rfl) (by unfold maxLen; simp only [List.length_cons, List.length_nil]; omega) (by simp only [List.length_cons, List.length_nil]; omega) (fun a176 c177 w178 hs179 => ?_)
    have hs180 : St B w l0 w178 [stepsA a176 c177 ([((slotAt i_ 0), 0), ((slotAt i_ 1), 0), ((slotAt i_ 2), 0), ((slotAt i_ 3), 0), ((descAt i_ 0), 0), (((descAt i_ 0) + 1), 0), ((descAt i_ 1), 0), (((descAt i_ 1) + 1), 0)]), viewA (ptr vb) img l] := hs179
    refine ops_run 1 (by kernel_rfl) ?_
    refine ops_done (by kernel_rfl) ?_
    refine normal_block ?_
    refine hK150 _ _ ?_
    clear hK150
    refine W.region ?_
    refine ops_run 2 (by kernel_rfl) ?_
    refine ops_done (by kernel_rfl) ?_
    refine loopAt_next ?_
    refine loopAt_round ?_
    refine W.seq fun K181 hK181 => ?_
    refine W.region ?_
    refine ops_run 1 (by kernel_rfl) ?_
    refine ops_done (by kernel_rfl) ?_
    refine hK181 _ _ ?_
    clear hK181
    refine W.seq fun K182 hK182 => ?_
    refine W.cond_true true (by kernel_rfl) rfl ?_
    refine W.skip ?_
    refine hK182 _ _ ?_
    clear hK182
    refine W.seq fun K183 hK183 => ?_
    refine W.block ?_
    refine W.seq fun K184 hK184 => ?_
    refine W.region ?_
    refine ops_run 2 (by kernel_rfl) ?_
    refine ops_done (by kernel_rfl) ?_
    refine hK184 _ _ ?_
    clear hK184
    refine W.seq fun K185 hK185 => ?_
    refine W.region ?_
    refine ops_run 2 (by kernel_rfl) ?_
    refine ops_call0 hs180 (by kernel_rfl) (descat_spec (i_ := i_) (k_ := 2) (hL := (hs180.oldCellsB hG2 hL)) B _) ?_
    rintro _ _ w186 ⟨rfl, rfl⟩ hs187
    have hs188 := St.ap0 hs187
    refine ops_run 1 (by kernel_rfl) ?_
    refine ops_done (by kernel_rfl) ?_
    refine hK185 _ _ ?_
    clear hK185
    refine W.region ?_
    refine ops_run 2 (by kernel_rfl) ?_
    refine ops_call0 hs188 (by kernel_rfl) (word_spec (at_ := (descAt i_ 2)) (x_ := 0) B _) ?_
    rintro _ _ w191 ⟨b189, b190, rfl, rfl⟩ hs192
    have hs193 := St.ap2 hs192
    refine ops_run 1 (by kernel_rfl) ?_
    obtain ⟨h194, hm⟩ := need_some hm
    refine ops_val (v := .int .i64 (IntKind.i64.wrap ((descAt i_ 2) + 1))) (v' := .int .i64 ((descAt i_ 2) + 1)) (by kernel_rfl) (congrArg (Value.int .i64) (wrap_i64 h194.1 h194.2)) ?_
    refine ops_call0 hs193 (by kernel_rfl) (word_spec (at_ := ((descAt i_ 2) + 1)) (x_ := 0) B _) ?_
    rintro _ _ w197 ⟨b195, b196, rfl, rfl⟩ hs198
    have hs199 := St.ap2 hs198
    refine ops_new (fun b => .slice (some ⟨b, 0, none⟩) 2 2) (.cells [(.func (.func 144) #[] #[(.pointer (some ⟨b189, 0, none⟩)), (.pointer (some ⟨b190, 0, none⟩))]), (.func (.func 144) #[] #[(.pointer (some ⟨b195, 0, none⟩)), (.pointer (some ⟨b196, 0, none⟩))])].toArray 172 (0, 0)) hs199 (by kernel_rfl) (fun b202 w200 hs201 => ?_)
    have hs203 := St.f2 hs201
    have hs204 := St.f2 hs203
    have hs205 := St.f4 hs204
    have hs206 := St.f4 hs205
    have hs207 := St.f4 hs206
    have hs208 := St.f5 hs207
    refine ops_appendSteps2 (bytes := 8) (a := a176) (c := c177) (sb := b202) (b1 := b189) (b2 := b190) (b3 := b195) (b4 := b196) (xs := [((slotAt i_ 0), 0), ((slotAt i_ 1), 0), ((slotAt i_ 2), 0), ((slotAt i_ 3), 0), ((descAt i_ 0), 0), (((descAt i_ 0) + 1), 0), ((descAt i_ 1), 0), (((descAt i_ 1) + 1), 0)]) (x := (descAt i_ 2)) (y := 0) (x' := ((descAt i_ 2) + 1)) (y' := 0) hs208 (by kernel_rfl) (by unfold maxLen; simp only [List.length_cons, List.length_nil]; omega) (by simp only [List.length_cons, List.length_nil]; omega) (fun a209 c210 w211 hs212 => ?_)
    have hs213 : St B w l0 w211 [stepsA a209 c210 ([((slotAt i_ 0), 0), ((slotAt i_ 1), 0), ((slotAt i_ 2), 0), ((slotAt i_ 3), 0), ((descAt i_ 0), 0), (((descAt i_ 0) + 1), 0), ((descAt i_ 1), 0), (((descAt i_ 1) + 1), 0), ((descAt i_ 2), 0), (((descAt i_ 2) + 1), 0)]), viewA (ptr vb) img l] := hs212
    refine ops_run 1 (by kernel_rfl) ?_
    refine ops_done (by kernel_rfl) ?_
    refine normal_block ?_
    refine hK183 _ _ ?_
    clear hK183
    refine W.region ?_
    refine ops_run 2 (by kernel_rfl) ?_
    refine ops_done (by kernel_rfl) ?_
    refine loopAt_next ?_
    refine loopAt_round ?_
    refine W.seq fun K214 hK214 => ?_
    refine W.region ?_
    refine ops_run 1 (by kernel_rfl) ?_
    refine ops_done (by kernel_rfl) ?_
    refine hK214 _ _ ?_
    clear hK214
    refine W.seq fun K215 hK215 => ?_
    refine W.cond_true true (by kernel_rfl) rfl ?_
    refine W.skip ?_
    refine hK215 _ _ ?_
    clear hK215
    refine W.seq fun K216 hK216 => ?_
    refine W.block ?_
    refine W.seq fun K217 hK217 => ?_
    refine W.region ?_
    refine ops_run 2 (by kernel_rfl) ?_
    refine ops_done (by kernel_rfl) ?_
    refine hK217 _ _ ?_
    clear hK217
    refine W.seq fun K218 hK218 => ?_
    refine W.region ?_
    refine ops_run 2 (by kernel_rfl) ?_
    refine ops_call0 hs213 (by kernel_rfl) (descat_spec (i_ := i_) (k_ := 3) (hL := (hs213.oldCellsB hG2 hL)) B _) ?_
    rintro _ _ w219 ⟨rfl, rfl⟩ hs220
    have hs221 := St.ap0 hs220
    refine ops_run 1 (by kernel_rfl) ?_
    refine ops_done (by kernel_rfl) ?_
    refine hK218 _ _ ?_
    clear hK218
    refine W.region ?_
    refine ops_run 2 (by kernel_rfl) ?_
    refine ops_call0 hs221 (by kernel_rfl) (word_spec (at_ := (descAt i_ 3)) (x_ := 0) B _) ?_
    rintro _ _ w224 ⟨b222, b223, rfl, rfl⟩ hs225
    have hs226 := St.ap2 hs225
    refine ops_run 1 (by kernel_rfl) ?_
    obtain ⟨h227, hm⟩ := need_some hm
    refine ops_val (v := .int .i64 (IntKind.i64.wrap ((descAt i_ 3) + 1))) (v' := .int .i64 ((descAt i_ 3) + 1)) (by kernel_rfl) (congrArg (Value.int .i64) (wrap_i64 h227.1 h227.2)) ?_
    refine ops_call0 hs226 (by kernel_rfl) (word_spec (at_ := ((descAt i_ 3) + 1)) (x_ := 0) B _) ?_
    rintro _ _ w230 ⟨b228, b229, rfl, rfl⟩ hs231
    have hs232 := St.ap2 hs231
    refine ops_new (fun b => .slice (some ⟨b, 0, none⟩) 2 2) (.cells [(.func (.func 144) #[] #[(.pointer (some ⟨b222, 0, none⟩)), (.pointer (some ⟨b223, 0, none⟩))]), (.func (.func 144) #[] #[(.pointer (some ⟨b228, 0, none⟩)), (.pointer (some ⟨b229, 0, none⟩))])].toArray 172 (0, 0)) hs232 (by kernel_rfl) (fun b235 w233 hs234 => ?_)
    have hs236 := St.f2 hs234
    have hs237 := St.f2 hs236
    have hs238 := St.f4 hs237
    have hs239 := St.f4 hs238
    have hs240 := St.f4 hs239
    have hs241 := St.f5 hs240
    refine ops_appendSteps2 (bytes := 8) (a := a209) (c := c210) (sb := b235) (b1 := b222) (b2 := b223) (b3 := b228) (b4 := b229) (xs := [((slotAt i_ 0), 0), ((slotAt i_ 1), 0), ((slotAt i_ 2), 0), ((slotAt i_ 3), 0), ((descAt i_ 0), 0), (((descAt i_ 0) + 1), 0), ((descAt i_ 1), 0), (((descAt i_ 1) + 1), 0), ((descAt i_ 2), 0), (((descAt i_ 2) + 1), 0)]) (x := (descAt i_ 3)) (y := 0) (x' := ((descAt i_ 3) + 1)) (y' := 0) hs241 (by kernel_rfl) (by unfold maxLen; simp only [List.length_cons, List.length_nil]; omega) (by simp only [List.length_cons, List.length_nil]; omega) (fun a242 c243 w244 hs245 => ?_)
    have hs246 : St B w l0 w244 [stepsA a242 c243 ([((slotAt i_ 0), 0), ((slotAt i_ 1), 0), ((slotAt i_ 2), 0), ((slotAt i_ 3), 0), ((descAt i_ 0), 0), (((descAt i_ 0) + 1), 0), ((descAt i_ 1), 0), (((descAt i_ 1) + 1), 0), ((descAt i_ 2), 0), (((descAt i_ 2) + 1), 0), ((descAt i_ 3), 0), (((descAt i_ 3) + 1), 0)]), viewA (ptr vb) img l] := hs245
    refine ops_run 1 (by kernel_rfl) ?_
    refine ops_done (by kernel_rfl) ?_
    refine normal_block ?_
    refine hK216 _ _ ?_
    clear hK216
    refine W.region ?_
    refine ops_run 2 (by kernel_rfl) ?_
    refine ops_done (by kernel_rfl) ?_
    refine loopAt_next ?_
    refine loopAt_round ?_
    refine W.seq fun K247 hK247 => ?_
    refine W.region ?_
    refine ops_run 1 (by kernel_rfl) ?_
    refine ops_done (by kernel_rfl) ?_
    refine hK247 _ _ ?_
    clear hK247
    refine W.seq fun K248 hK248 => ?_
    refine W.cond_false false (by kernel_rfl) rfl ?_
    refine W.exit (exit_seq (exit_seq (exit_here ?_)))
    refine hK113 _ _ ?_
    clear hK113
    refine W.seq fun K249 hK249 => ?_
    refine W.region ?_
    refine ops_run 2 (by kernel_rfl) ?_
    obtain ⟨r250, h251, hm⟩ := bind_some hm
    replace h251 := some_inj h251
    have hs254 := St.f1 hs246
    refine ops_call2 hs254 (by kernel_rfl) (row_spec (b := vb) (img := img) (l := l) (a := a242) (c := c243) (n := [((slotAt i_ 0), 0), ((slotAt i_ 1), 0), ((slotAt i_ 2), 0), ((slotAt i_ 3), 0), ((descAt i_ 0), 0), (((descAt i_ 0) + 1), 0), ((descAt i_ 1), 0), (((descAt i_ 1) + 1), 0), ((descAt i_ 2), 0), (((descAt i_ 2) + 1), 0), ((descAt i_ 3), 0), (((descAt i_ 3) + 1), 0)].length) (xs := [((slotAt i_ 0), 0), ((slotAt i_ 1), 0), ((slotAt i_ 2), 0), ((slotAt i_ 3), 0), ((descAt i_ 0), 0), (((descAt i_ 0) + 1), 0), ((descAt i_ 1), 0), (((descAt i_ 1) + 1), 0), ((descAt i_ 2), 0), (((descAt i_ 2) + 1), 0), ((descAt i_ 3), 0), (((descAt i_ 3) + 1), 0)]) (hn := rfl) (hsz := (by simp only [List.length_cons, List.length_nil]; omega)) B _) ?_
    rintro _ _ w255 ⟨hv252, hH253⟩ hs256
    rw [h251] at hv252
    try rw [h251] at hH253
    subst hv252 hH253
    have hs257 := St.ap1 hs256
    refine ops_run 1 (by kernel_rfl) ?_
    refine ops_done (by kernel_rfl) ?_
    refine hK249 _ _ ?_
    clear hK249
    refine W.ret ?_
    obtain rfl := some_inj hm
    refine ret_of (.int .i64 r250.1) (by kernel_rfl) ⟨_, ⟨rfl, rfl⟩, hs257⟩
  ·
    have h10p : ¬ (r3.2 = 0) := of_decide_eq_false (bnot_true h10)
    replace hm := ite_no hm h10p
    refine W.seq fun K258 hK258 => ?_
    refine W.region ?_
    refine ops_run 2 (by kernel_rfl) ?_
    refine ops_done (by kernel_rfl) ?_
    refine hK258 _ _ ?_
    clear hK258
    refine W.ret (ret_seq ?_)
    obtain rfl := some_inj hm
    refine ret_of (.int .i64 r3.2) (by kernel_rfl) ⟨_, ⟨rfl, rfl⟩, hs7⟩

set_option maxRecDepth 20000 in
theorem sget_nil {i_ : Int} (B : Nat) (w : World) (hL : CellsAt (some ⟨1, 0, none⟩) [(.int .i64 1), (.int .i64 2), (.int .i64 2)] w) : Spec Tryd.prog 30 #[(.pointer none), (.int .i64 i_)] B w [] (fun v H' => v = (.tuple #[(.agg #[(.bool false), (.int .u64 0), (.int .u64 0)]), (.int .i64 2)]) ∧ H' = []) := by
  refine spec_Q Tryd.func30 rfl fun hs => ?_
  refine W.seq fun K1 hK1 => ?_
  refine W.region ?_
  refine ops_new (fun b => .pointer (some ⟨b, 0, none⟩)) (.cells [(.bool false), (.int .u64 0), (.int .u64 0)].toArray 48 (0, 0)) hs (by kernel_rfl) (fun b4 w2 hs3 => ?_)
  refine ops_run 1 (by kernel_rfl) ?_
  refine ops_done (by kernel_rfl) ?_
  refine hK1 _ _ ?_
  clear hK1
  refine W.seq fun K5 hK5 => ?_
  refine W.region ?_
  refine ops_run 2 (by kernel_rfl) ?_
  refine ops_call0 hs3 (by kernel_rfl) (ssess_nil (hL := (hs3.oldCells hL)) (i_ := i_) B _) ?_
  rintro _ _ w6 ⟨rfl, rfl⟩ hs7
  have hs8 := St.ap0 hs7
  refine ops_run 5 (by kernel_rfl) ?_
  refine ops_done (by kernel_rfl) ?_
  refine hK5 _ _ ?_
  clear hK5
  refine W.seq fun K9 hK9 => ?_
  refine W.seq fun K10 hK10 => ?_
  refine W.region ?_
  refine ops_run 2 (by kernel_rfl) ?_
  refine ops_done (by kernel_rfl) ?_
  refine hK10 _ _ ?_
  clear hK10
  refine W.cond_true true (by kernel_rfl) rfl ?_
  refine W.seq fun K11 hK11 => ?_
  refine W.region ?_
  refine ops_run 2 (by kernel_rfl) ?_
  refine ops_store (off := 0) (cs := [(.bool false), (.int .u64 0), (.int .u64 0)]) (vs := [(.bool false), (.int .u64 0), (.int .u64 0)]) hs8 (by kernel_rfl) (by simp) rfl (fun w12 hs13 => ?_)
  have hs14 : St B w [] w12 [blk b4 (.cells [(.bool false), (.int .u64 0), (.int .u64 0)].toArray 48 (0, 0))] := hs13
  refine ops_run 1 (by kernel_rfl) ?_
  refine ops_done (by kernel_rfl) ?_
  refine hK11 _ _ ?_
  clear hK11
  refine W.ret (ret_seq ?_)
  have hs15 := St.tk0 hs14
  refine ret_of (.tuple #[(.agg #[(.bool false), (.int .u64 0), (.int .u64 0)]), (.int .i64 2)]) (results_cell2 (ad := ⟨b4, 0, none⟩) (cs := [(.bool false), (.int .u64 0), (.int .u64 0)]) rfl (by kernel_rfl) (by kernel_rfl) (by kernel_rfl) (cells_sub (hs14.heapAt 0 rfl) rfl)) ⟨_, ⟨rfl, rfl⟩, hs15⟩

set_option maxRecDepth 20000 in
theorem sput_nil {i_ : Int} {ho_ : Bool} {hg_ hk_ : Int} (B : Nat) (w : World) (hL : CellsAt (some ⟨1, 0, none⟩) [(.int .i64 1), (.int .i64 2), (.int .i64 2)] w) : Spec Tryd.prog 32 #[(.pointer none), (.int .i64 i_), (.agg #[(.bool ho_), (.int .u64 hg_), (.int .u64 hk_)])] B w [] (fun v H' => v = (.int .i64 2) ∧ H' = []) := by
  refine spec_Q Tryd.func32 rfl fun hs => ?_
  refine W.seq fun K1 hK1 => ?_
  refine W.region ?_
  refine ops_new (fun b => .pointer (some ⟨b, 0, none⟩)) (.cells [(.bool ho_), (.int .u64 hg_), (.int .u64 hk_)].toArray 48 (0, 0)) hs (by kernel_rfl) (fun b4 w2 hs3 => ?_)
  refine ops_run 1 (by kernel_rfl) ?_
  refine ops_done (by kernel_rfl) ?_
  refine hK1 _ _ ?_
  clear hK1
  refine W.seq fun K5 hK5 => ?_
  refine W.region ?_
  refine ops_run 2 (by kernel_rfl) ?_
  refine ops_call0 hs3 (by kernel_rfl) (ssess_nil (hL := (hs3.oldCells hL)) (i_ := i_) B _) ?_
  rintro _ _ w6 ⟨rfl, rfl⟩ hs7
  have hs8 := St.ap0 hs7
  refine ops_run 5 (by kernel_rfl) ?_
  refine ops_done (by kernel_rfl) ?_
  refine hK5 _ _ ?_
  clear hK5
  refine W.seq fun K9 hK9 => ?_
  refine W.seq fun K10 hK10 => ?_
  refine W.region ?_
  refine ops_run 2 (by kernel_rfl) ?_
  refine ops_done (by kernel_rfl) ?_
  refine hK10 _ _ ?_
  clear hK10
  refine W.cond_true true (by kernel_rfl) rfl ?_
  refine W.seq fun K11 hK11 => ?_
  refine W.region ?_
  refine ops_run 2 (by kernel_rfl) ?_
  refine ops_done (by kernel_rfl) ?_
  refine hK11 _ _ ?_
  clear hK11
  refine W.ret (ret_seq ?_)
  have hs12 := St.tk0 hs8
  refine ret_of (.int .i64 2) (by kernel_rfl) ⟨_, ⟨rfl, rfl⟩, hs12⟩

set_option maxRecDepth 20000 in
theorem swipe_nil {i_ : Int} (B : Nat) (w : World) (hL : CellsAt (some ⟨1, 0, none⟩) [(.int .i64 1), (.int .i64 2), (.int .i64 2)] w) : Spec Tryd.prog 34 #[(.pointer none), (.int .i64 i_)] B w [] (fun v H' => v = (.int .i64 2) ∧ H' = []) := by
  refine spec_Q Tryd.func34 rfl fun hs => ?_
  refine W.seq fun K1 hK1 => ?_
  refine W.region ?_
  refine ops_run 1 (by kernel_rfl) ?_
  refine ops_done (by kernel_rfl) ?_
  refine hK1 _ _ ?_
  clear hK1
  refine W.seq fun K2 hK2 => ?_
  refine W.region ?_
  refine ops_run 2 (by kernel_rfl) ?_
  refine ops_call0 hs (by kernel_rfl) (ssess_nil (hL := (hs.oldCells hL)) (i_ := i_) B _) ?_
  rintro _ _ w3 ⟨rfl, rfl⟩ hs4
  have hs5 := St.ap0 hs4
  refine ops_run 5 (by kernel_rfl) ?_
  refine ops_done (by kernel_rfl) ?_
  refine hK2 _ _ ?_
  clear hK2
  refine W.seq fun K6 hK6 => ?_
  refine W.seq fun K7 hK7 => ?_
  refine W.region ?_
  refine ops_run 2 (by kernel_rfl) ?_
  refine ops_done (by kernel_rfl) ?_
  refine hK7 _ _ ?_
  clear hK7
  refine W.cond_true true (by kernel_rfl) rfl ?_
  refine W.seq fun K8 hK8 => ?_
  refine W.region ?_
  refine ops_run 2 (by kernel_rfl) ?_
  refine ops_done (by kernel_rfl) ?_
  refine hK8 _ _ ?_
  clear hK8
  refine W.ret (ret_seq ?_)
  refine ret_of (.int .i64 2) (by kernel_rfl) ⟨_, ⟨rfl, rfl⟩, hs5⟩

end Go.Proofs.YthimamnblklkbaaDoor

/- What the code computes, by a program. -/
namespace Go.Proofs.YthimamnblklkbaaDoor
open Go Go.RowKit
set_option linter.unusedSimpArgs false
set_option linter.unusedVariables false

def sload_J2 (img : List Int) (l : List (Int × Int)) (r6 : Int × Int) (r31 : Int) (r33 : Int) (p36 : Bool) : Option (Int × Int × Int × Int × ByteArray × Int) :=
  if p36 = true then (some (0, 0, 0, 0, ByteArray.empty, 4)) else (need (-9223372036854775808 ≤ (r6.1 + 4) ∧ (r6.1 + 4) ≤ 9223372036854775807) <|
need (-9223372036854775808 ≤ (r6.1 + 5) ∧ (r6.1 + 5) ≤ 9223372036854775807) <|
need (-9223372036854775808 ≤ (r6.1 + 6) ∧ (r6.1 + 6) ≤ 9223372036854775807) <|
need (-9223372036854775808 ≤ (r6.1 + 7) ∧ (r6.1 + 7) ≤ 9223372036854775807) <|
need (-9223372036854775808 ≤ (r6.1 + 8) ∧ (r6.1 + 8) ≤ 9223372036854775807) <|
need (-9223372036854775808 ≤ (r6.1 + 9) ∧ (r6.1 + 9) ≤ 9223372036854775807) <|
need (-9223372036854775808 ≤ (r6.1 + 10) ∧ (r6.1 + 10) ≤ 9223372036854775807) <|
need (-9223372036854775808 ≤ (r6.1 + 11) ∧ (r6.1 + 11) ≤ 9223372036854775807) <|
need (-9223372036854775808 ≤ r33 ∧ r33 ≤ 9223372036854775807) <|
(unpack_M ([(vget img l (r6.1 + 4)), (vget img l (r6.1 + 5)), (vget img l (r6.1 + 6)), (vget img l (r6.1 + 7)), (vget img l (r6.1 + 8)), (vget img l (r6.1 + 9)), (vget img l (r6.1 + 10)), (vget img l (r6.1 + 11))]) r33).bind fun r180 =>
if r180.2 = 0 then (need (-9223372036854775808 ≤ r31 ∧ r31 ≤ 9223372036854775807) <|
need (-9223372036854775808 ≤ (r6.1 + 2) ∧ (r6.1 + 2) ≤ 9223372036854775807) <|
need (-9223372036854775808 ≤ (r6.1 + 3) ∧ (r6.1 + 3) ≤ 9223372036854775807) <|
some ((vget img l r6.1), r31, (vget img l (r6.1 + 2)), (vget img l (r6.1 + 3)), r180.1, 0)) else (some (0, 0, 0, 0, ByteArray.empty, r180.2)))

def sload_J1 (img : List Int) (l : List (Int × Int)) (r6 : Int × Int) (p12 : Bool) : Option (Int × Int × Int × Int × ByteArray × Int) :=
  if p12 = true then (some (0, 0, 0, 0, ByteArray.empty, r6.2)) else (need (-9223372036854775808 ≤ (r6.1 + 1) ∧ (r6.1 + 1) ≤ 9223372036854775807) <|
need (-9223372036854775808 ≤ (r6.1 + 1) ∧ (r6.1 + 1) ≤ 9223372036854775807) <|
need (0 ≤ ((vget img l (r6.1 + 1)).tdiv 256) ∧ ((vget img l (r6.1 + 1)).tdiv 256) ≤ 18446744073709551615) <|
(some ((vget img l (r6.1 + 1)).tmod 256)).bind fun r31 =>
(some ((vget img l (r6.1 + 1)).tdiv 256)).bind fun r33 =>
if r31 > 24 then (sload_J2 img l r6 r31 r33 true) else (sload_J2 img l r6 r31 r33 (decide (r33 > 64))))

def sload_M (img : List Int) (l : List (Int × Int)) (i_ : Int) (k_ : Int) : Option (Int × Int × Int × Int × ByteArray × Int) :=
  (sfind_M img i_ k_).bind fun r6 =>
if r6.2 = 0 then (sload_J1 img l r6 (decide ((vget img l r6.1) = 0))) else (sload_J1 img l r6 true)

set_option maxRecDepth 20000 in
set_option maxHeartbeats 2000000 in
set_option linter.unusedVariables false in
theorem sload_walk {img : List Int} {l : List (Int × Int)} {i_ : Int} {k_ : Int} {vb : Nat} {r : Int × Int × Int × Int × ByteArray × Int} (B : Nat) (w : World) (hL : CellsAt (some ⟨1, 0, none⟩) [(.int .i64 1), (.int .i64 2), (.int .i64 2)] w) (hv : ViewAt (ptr vb) img l w) (hm : sload_M img l i_ k_ = some r) : Spec Tryd.prog 31 #[(.pointer (some ⟨vb, 0, none⟩)), (.int .i64 i_), (.int .i64 k_)] B w [] (fun v H' => v = (.tuple #[(.int .u64 r.1), (.agg #[(.int .i64 r.2.1), (.int .u64 r.2.2.1), (.int .u64 r.2.2.2.1), (.string r.2.2.2.2.1)]), (.int .i64 r.2.2.2.2.2)]) ∧ H' = []) := by
  refine spec_Q Tryd.func31 rfl fun hs => ?_
  unfold sload_M at hm
  refine W.seq fun K1 hK1 => ?_
  refine W.region ?_
  refine ops_run 1 (by kernel_rfl) ?_
  refine ops_new (fun b => .pointer (some ⟨b, 0, none⟩)) (.cells [(.int .i64 0), (.int .u64 0), (.int .u64 0), (.string ByteArray.empty)].toArray 46 (0, 0)) hs (by kernel_rfl) (fun b4 w2 hs3 => ?_)
  refine ops_run 1 (by kernel_rfl) ?_
  refine ops_done (by kernel_rfl) ?_
  refine hK1 _ _ ?_
  clear hK1
  refine W.seq fun K5 hK5 => ?_
  refine W.region ?_
  refine ops_run 3 (by kernel_rfl) ?_
  obtain ⟨r6, h7, hm⟩ := bind_some hm
  refine ops_call0 hs3 (by kernel_rfl) (sfind_walk (i_ := i_) (k_ := k_) (img := img) (l := l) (hL := (hs3.oldCells hL)) (hv := (viewAt_old hs3 hv)) (hm := h7) B _) ?_
  rintro _ _ w8 ⟨rfl, rfl⟩ hs9
  have hs10 := St.ap0 hs9
  refine ops_run 5 (by kernel_rfl) ?_
  refine ops_done (by kernel_rfl) ?_
  refine hK5 _ _ ?_
  clear hK5
  refine W.seq fun K11 hK11 => ?_
  refine W.seq_join (fun s_ w_ => ∃ (p12 : Bool), (∃ us, s_ = slots 87 [(0, (.pointer (some ⟨vb, 0, none⟩))), (7, (.pointer (some ⟨b4, 0, none⟩))), (8, (.int .i64 r6.2)), (9, (.int .i64 r6.1)), (29, (.bool p12))] us) ∧ St B w [] w_ [blk b4 (.cells [(.int .i64 0), (.int .u64 0), (.int .u64 0), (.string ByteArray.empty)].toArray 46 (0, 0))] ∧ sload_J1 img l r6 p12 = some r) ?_ ?_
  ·
    rintro _ w13 ⟨p12, ⟨us, rfl⟩, hs14, hm⟩
    unfold sload_J1 at hm
    refine W.cond p12 (by kernel_rfl) (fun h15 => ?_) (fun h15 => ?_)
    ·
      have h15p : p12 = true := h15
      replace hm := ite_yes hm h15p
      refine W.seq fun K16 hK16 => ?_
      refine W.region ?_
      refine ops_run 3 (by kernel_rfl) ?_
      refine ops_store (off := 0) (cs := [(.int .i64 0), (.int .u64 0), (.int .u64 0), (.string ByteArray.empty)]) (vs := [(.int .i64 0), (.int .u64 0), (.int .u64 0), (.string ByteArray.empty)]) hs14 (by kernel_rfl) (by simp) rfl (fun w17 hs18 => ?_)
      have hs19 : St B w [] w17 [blk b4 (.cells [(.int .i64 0), (.int .u64 0), (.int .u64 0), (.string ByteArray.empty)].toArray 46 (0, 0))] := hs18
      refine ops_run 1 (by kernel_rfl) ?_
      refine ops_done (by kernel_rfl) ?_
      refine hK16 _ _ ?_
      clear hK16
      refine W.ret (ret_seq ?_)
      obtain rfl := some_inj hm
      have hs20 := St.tk0 hs19
      refine ret_of (.tuple #[(.int .u64 0), (.agg #[(.int .i64 0), (.int .u64 0), (.int .u64 0), (.string ByteArray.empty)]), (.int .i64 r6.2)]) (resS_of (by kernel_rfl) (resD_three rfl (.tmp (by kernel_rfl)) (.agg (ad := ⟨b4, 0, none⟩) (cs := [(.int .i64 0), (.int .u64 0), (.int .u64 0), (.string ByteArray.empty)]) (by kernel_rfl) (by kernel_rfl) (cells_sub (hs19.heapAt 0 rfl) rfl)) (.tmp (by kernel_rfl)))) ⟨_, ⟨rfl, rfl⟩, hs20⟩
    ·
      have h15p : ¬ (p12 = true) := ne_true_of_eq_false h15
      replace hm := ite_no hm h15p
      refine W.skip ?_
      refine hK11 _ _ ?_
      clear hK11
      refine W.seq fun K21 hK21 => ?_
      refine W.region ?_
      refine ops_run 2 (by kernel_rfl) ?_
      obtain ⟨h22, hm⟩ := need_some hm
      refine ops_val (v := .int .i64 (IntKind.i64.wrap (r6.1 + 1))) (v' := .int .i64 (r6.1 + 1)) (by kernel_rfl) (congrArg (Value.int .i64) (wrap_i64 h22.1 h22.2)) ?_
      refine ops_call0 hs14 (by kernel_rfl) (get_spec (at_ := (r6.1 + 1)) (hv := (viewAt_old hs14 hv)) B _) ?_
      rintro _ _ w23 ⟨rfl, rfl⟩ hs24
      have hs25 := St.ap0 hs24
      refine ops_run 3 (by kernel_rfl) ?_
      obtain ⟨h26, hm⟩ := need_some hm
      refine ops_val (v := .int .i64 (IntKind.i64.wrap (r6.1 + 1))) (v' := .int .i64 (r6.1 + 1)) (by kernel_rfl) (congrArg (Value.int .i64) (wrap_i64 h26.1 h26.2)) ?_
      refine ops_call0 hs25 (by kernel_rfl) (get_spec (at_ := (r6.1 + 1)) (hv := (viewAt_old hs25 hv)) B _) ?_
      rintro _ _ w27 ⟨rfl, rfl⟩ hs28
      have hs29 := St.ap0 hs28
      obtain ⟨h30, hm⟩ := need_some hm
      refine ops_R (v := .int .u64 ((vget img l (r6.1 + 1)).tdiv 256)) (runs_quo (k := .u64) (a := (vget img l (r6.1 + 1))) (b := 256) (by kernel_rfl) (by decide) (wrap_u64 h30.1 (Int.lt_of_le_of_lt h30.2 (by decide)))) ?_
      refine ops_run 1 (by kernel_rfl) ?_
      obtain ⟨r31, h32, hm⟩ := bind_some hm
      replace h32 := some_inj h32
      refine ops_set 10 (v := .int .u64 r31) (Eq.trans (by kernel_rfl) (congrArg (Value.int .u64) h32)) ?_
      refine ops_run 1 (by kernel_rfl) ?_
      obtain ⟨r33, h34, hm⟩ := bind_some hm
      replace h34 := some_inj h34
      refine ops_set 11 (v := .int .u64 r33) (Eq.trans (by kernel_rfl) (congrArg (Value.int .u64) h34)) ?_
      refine ops_done (by kernel_rfl) ?_
      refine hK21 _ _ ?_
      clear hK21
      refine W.seq fun K35 hK35 => ?_
      refine W.seq_join (fun s_ w_ => ∃ (p36 : Bool), (∃ us, s_ = slots 87 [(0, (.pointer (some ⟨vb, 0, none⟩))), (7, (.pointer (some ⟨b4, 0, none⟩))), (9, (.int .i64 r6.1)), (10, (.int .u64 r31)), (11, (.int .u64 r33)), (47, (.bool p36))] us) ∧ St B w [] w_ [blk b4 (.cells [(.int .i64 0), (.int .u64 0), (.int .u64 0), (.string ByteArray.empty)].toArray 46 (0, 0))] ∧ sload_J2 img l r6 r31 r33 p36 = some r) ?_ ?_
      ·
        rintro _ w37 ⟨p36, ⟨us, rfl⟩, hs38, hm⟩
        unfold sload_J2 at hm
        refine W.cond p36 (by kernel_rfl) (fun h39 => ?_) (fun h39 => ?_)
        ·
          have h39p : p36 = true := h39
          replace hm := ite_yes hm h39p
          refine W.seq fun K40 hK40 => ?_
          refine W.region ?_
          refine ops_run 2 (by kernel_rfl) ?_
          refine ops_store (off := 0) (cs := [(.int .i64 0), (.int .u64 0), (.int .u64 0), (.string ByteArray.empty)]) (vs := [(.int .i64 0), (.int .u64 0), (.int .u64 0), (.string ByteArray.empty)]) hs38 (by kernel_rfl) (by simp) rfl (fun w41 hs42 => ?_)
          have hs43 : St B w [] w41 [blk b4 (.cells [(.int .i64 0), (.int .u64 0), (.int .u64 0), (.string ByteArray.empty)].toArray 46 (0, 0))] := hs42
          refine ops_run 1 (by kernel_rfl) ?_
          refine ops_done (by kernel_rfl) ?_
          refine hK40 _ _ ?_
          clear hK40
          refine W.ret (ret_seq ?_)
          obtain rfl := some_inj hm
          have hs44 := St.tk0 hs43
          refine ret_of (.tuple #[(.int .u64 0), (.agg #[(.int .i64 0), (.int .u64 0), (.int .u64 0), (.string ByteArray.empty)]), (.int .i64 4)]) (resS_of (by kernel_rfl) (resD_three rfl (.tmp (by kernel_rfl)) (.agg (ad := ⟨b4, 0, none⟩) (cs := [(.int .i64 0), (.int .u64 0), (.int .u64 0), (.string ByteArray.empty)]) (by kernel_rfl) (by kernel_rfl) (cells_sub (hs43.heapAt 0 rfl) rfl)) (.tmp (by kernel_rfl)))) ⟨_, ⟨rfl, rfl⟩, hs44⟩
        ·
          have h39p : ¬ (p36 = true) := ne_true_of_eq_false h39
          replace hm := ite_no hm h39p
          refine W.skip ?_
          refine hK35 _ _ ?_
          clear hK35
          refine W.seq fun K45 hK45 => ?_
          refine W.region ?_
          refine ops_run 1 (by kernel_rfl) ?_
          refine ops_done (by kernel_rfl) ?_
          refine hK45 _ _ ?_
          clear hK45
          refine W.seq fun K46 hK46 => ?_
          refine W.seq fun K47 hK47 => ?_
          refine W.region ?_
          refine ops_run 1 (by kernel_rfl) ?_
          refine ops_done (by kernel_rfl) ?_
          refine hK47 _ _ ?_
          clear hK47
          refine W.block ?_
          refine W.loop_start ?_
          refine loopAt_round ?_
          refine W.seq fun K48 hK48 => ?_
          refine W.seq fun K49 hK49 => ?_
          refine W.region ?_
          refine ops_run 2 (by kernel_rfl) ?_
          refine ops_done (by kernel_rfl) ?_
          refine hK49 _ _ ?_
          clear hK49
          refine W.cond_true true (by kernel_rfl) rfl ?_
          refine W.skip ?_
          refine hK48 _ _ ?_
          clear hK48
          refine W.seq fun K50 hK50 => ?_
          refine W.block ?_
          refine W.region ?_
          refine ops_run 4 (by kernel_rfl) ?_
          obtain ⟨h51, hm⟩ := need_some hm
          refine ops_val (v := .int .i64 (IntKind.i64.wrap (r6.1 + 4))) (v' := .int .i64 (r6.1 + 4)) (by kernel_rfl) (congrArg (Value.int .i64) (wrap_i64 h51.1 h51.2)) ?_
          refine ops_call0 hs38 (by kernel_rfl) (get_spec (at_ := (r6.1 + 4)) (hv := (viewAt_old hs38 hv)) B _) ?_
          rintro _ _ w52 ⟨rfl, rfl⟩ hs53
          have hs54 := St.ap0 hs53
          refine ops_new (fun b => .slice (some ⟨b, 0, none⟩) 1 1) (.cells [(.int .u64 (vget img l (r6.1 + 4)))].toArray 38 (0, 0)) hs54 (by kernel_rfl) (fun b57 w55 hs56 => ?_)
          have hs58 := St.knil kU64 hs56
          refine ops_appendK kU64 (bytes := 8) (a' := (some ⟨b57, 0, none⟩)) (c' := 1) (l := []) (m := [(vget img l (r6.1 + 4))]) hs58 (by kernel_rfl) (by simp) (cells_blk (hs58.heapAt 1 rfl)) (by (unfold maxLen; try simp) <;> omega) (by (try simp) <;> omega) (fun a59 c60 w61 hs62 => ?_)
          have hs63 : St B w [] w61 [kU64.row a59 c60 ([(vget img l (r6.1 + 4))]), blk b57 (.cells [(.int .u64 (vget img l (r6.1 + 4)))].toArray 38 (0, 0)), blk b4 (.cells [(.int .i64 0), (.int .u64 0), (.int .u64 0), (.string ByteArray.empty)].toArray 46 (0, 0))] := hs62
          refine ops_run 1 (by kernel_rfl) ?_
          refine ops_done (by kernel_rfl) ?_
          refine normal_block ?_
          refine hK50 _ _ ?_
          clear hK50
          refine W.region ?_
          refine ops_run 3 (by kernel_rfl) ?_
          refine ops_done (by kernel_rfl) ?_
          refine loopAt_next ?_
          refine loopAt_round ?_
          refine W.seq fun K64 hK64 => ?_
          refine W.seq fun K65 hK65 => ?_
          refine W.region ?_
          refine ops_run 2 (by kernel_rfl) ?_
          refine ops_done (by kernel_rfl) ?_
          refine hK65 _ _ ?_
          clear hK65
          refine W.cond_true true (by kernel_rfl) rfl ?_
          refine W.skip ?_
          refine hK64 _ _ ?_
          clear hK64
          refine W.seq fun K66 hK66 => ?_
          refine W.block ?_
          refine W.region ?_
          refine ops_run 4 (by kernel_rfl) ?_
          obtain ⟨h67, hm⟩ := need_some hm
          refine ops_val (v := .int .i64 (IntKind.i64.wrap (r6.1 + 5))) (v' := .int .i64 (r6.1 + 5)) (by kernel_rfl) (congrArg (Value.int .i64) (wrap_i64 h67.1 h67.2)) ?_
          refine ops_call0 hs63 (by kernel_rfl) (get_spec (at_ := (r6.1 + 5)) (hv := (viewAt_old hs63 hv)) B _) ?_
          rintro _ _ w68 ⟨rfl, rfl⟩ hs69
          have hs70 := St.ap0 hs69
          refine ops_new (fun b => .slice (some ⟨b, 0, none⟩) 1 1) (.cells [(.int .u64 (vget img l (r6.1 + 5)))].toArray 38 (0, 0)) hs70 (by kernel_rfl) (fun b73 w71 hs72 => ?_)
          have hs74 := St.f1 hs72
          refine ops_appendK kU64 (bytes := 8) (a' := (some ⟨b73, 0, none⟩)) (c' := 1) (l := [(vget img l (r6.1 + 4))]) (m := [(vget img l (r6.1 + 5))]) hs74 (by kernel_rfl) (by simp) (cells_blk (hs74.heapAt 1 rfl)) (by unfold maxLen; (try simp only [List.length_cons, List.length_nil]); omega) (by (try simp only [List.length_cons, List.length_nil]); omega) (fun a75 c76 w77 hs78 => ?_)
          have hs79 : St B w [] w77 [kU64.row a75 c76 ([(vget img l (r6.1 + 4)), (vget img l (r6.1 + 5))]), blk b73 (.cells [(.int .u64 (vget img l (r6.1 + 5)))].toArray 38 (0, 0)), blk b57 (.cells [(.int .u64 (vget img l (r6.1 + 4)))].toArray 38 (0, 0)), blk b4 (.cells [(.int .i64 0), (.int .u64 0), (.int .u64 0), (.string ByteArray.empty)].toArray 46 (0, 0))] := hs78
          refine ops_run 1 (by kernel_rfl) ?_
          refine ops_done (by kernel_rfl) ?_
          refine normal_block ?_
          refine hK66 _ _ ?_
          clear hK66
          refine W.region ?_
          refine ops_run 3 (by kernel_rfl) ?_
          refine ops_done (by kernel_rfl) ?_
          refine loopAt_next ?_
          refine loopAt_round ?_
          refine W.seq fun K80 hK80 => ?_
          refine W.seq fun K81 hK81 => ?_
          refine W.region ?_
          refine ops_run 2 (by kernel_rfl) ?_
          refine ops_done (by kernel_rfl) ?_
          refine hK81 _ _ ?_
          clear hK81
          refine W.cond_true true (by kernel_rfl) rfl ?_
          refine W.skip ?_
          refine hK80 _ _ ?_
          clear hK80
          refine W.seq fun K82 hK82 => ?_
          refine W.block ?_
          refine W.region ?_
          refine ops_run 4 (by kernel_rfl) ?_
          obtain ⟨h83, hm⟩ := need_some hm
          refine ops_val (v := .int .i64 (IntKind.i64.wrap (r6.1 + 6))) (v' := .int .i64 (r6.1 + 6)) (by kernel_rfl) (congrArg (Value.int .i64) (wrap_i64 h83.1 h83.2)) ?_
          refine ops_call0 hs79 (by kernel_rfl) (get_spec (at_ := (r6.1 + 6)) (hv := (viewAt_old hs79 hv)) B _) ?_
          rintro _ _ w84 ⟨rfl, rfl⟩ hs85
          have hs86 := St.ap0 hs85
          refine ops_new (fun b => .slice (some ⟨b, 0, none⟩) 1 1) (.cells [(.int .u64 (vget img l (r6.1 + 6)))].toArray 38 (0, 0)) hs86 (by kernel_rfl) (fun b89 w87 hs88 => ?_)
          have hs90 := St.f1 hs88
          refine ops_appendK kU64 (bytes := 8) (a' := (some ⟨b89, 0, none⟩)) (c' := 1) (l := [(vget img l (r6.1 + 4)), (vget img l (r6.1 + 5))]) (m := [(vget img l (r6.1 + 6))]) hs90 (by kernel_rfl) (by simp) (cells_blk (hs90.heapAt 1 rfl)) (by unfold maxLen; (try simp only [List.length_cons, List.length_nil]); omega) (by (try simp only [List.length_cons, List.length_nil]); omega) (fun a91 c92 w93 hs94 => ?_)
          have hs95 : St B w [] w93 [kU64.row a91 c92 ([(vget img l (r6.1 + 4)), (vget img l (r6.1 + 5)), (vget img l (r6.1 + 6))]), blk b89 (.cells [(.int .u64 (vget img l (r6.1 + 6)))].toArray 38 (0, 0)), blk b73 (.cells [(.int .u64 (vget img l (r6.1 + 5)))].toArray 38 (0, 0)), blk b57 (.cells [(.int .u64 (vget img l (r6.1 + 4)))].toArray 38 (0, 0)), blk b4 (.cells [(.int .i64 0), (.int .u64 0), (.int .u64 0), (.string ByteArray.empty)].toArray 46 (0, 0))] := hs94
          refine ops_run 1 (by kernel_rfl) ?_
          refine ops_done (by kernel_rfl) ?_
          refine normal_block ?_
          refine hK82 _ _ ?_
          clear hK82
          refine W.region ?_
          refine ops_run 3 (by kernel_rfl) ?_
          refine ops_done (by kernel_rfl) ?_
          refine loopAt_next ?_
          refine loopAt_round ?_
          refine W.seq fun K96 hK96 => ?_
          refine W.seq fun K97 hK97 => ?_
          refine W.region ?_
          refine ops_run 2 (by kernel_rfl) ?_
          refine ops_done (by kernel_rfl) ?_
          refine hK97 _ _ ?_
          clear hK97
          refine W.cond_true true (by kernel_rfl) rfl ?_
          refine W.skip ?_
          refine hK96 _ _ ?_
          clear hK96
          refine W.seq fun K98 hK98 => ?_
          refine W.block ?_
          refine W.region ?_
          refine ops_run 4 (by kernel_rfl) ?_
          obtain ⟨h99, hm⟩ := need_some hm
          refine ops_val (v := .int .i64 (IntKind.i64.wrap (r6.1 + 7))) (v' := .int .i64 (r6.1 + 7)) (by kernel_rfl) (congrArg (Value.int .i64) (wrap_i64 h99.1 h99.2)) ?_
          refine ops_call0 hs95 (by kernel_rfl) (get_spec (at_ := (r6.1 + 7)) (hv := (viewAt_old hs95 hv)) B _) ?_
          rintro _ _ w100 ⟨rfl, rfl⟩ hs101
          have hs102 := St.ap0 hs101
          refine ops_new (fun b => .slice (some ⟨b, 0, none⟩) 1 1) (.cells [(.int .u64 (vget img l (r6.1 + 7)))].toArray 38 (0, 0)) hs102 (by kernel_rfl) (fun b105 w103 hs104 => ?_)
          have hs106 := St.f1 hs104
          refine ops_appendK kU64 (bytes := 8) (a' := (some ⟨b105, 0, none⟩)) (c' := 1) (l := [(vget img l (r6.1 + 4)), (vget img l (r6.1 + 5)), (vget img l (r6.1 + 6))]) (m := [(vget img l (r6.1 + 7))]) hs106 (by kernel_rfl) (by simp) (cells_blk (hs106.heapAt 1 rfl)) (by unfold maxLen; (try simp only [List.length_cons, List.length_nil]); omega) (by (try simp only [List.length_cons, List.length_nil]); omega) (fun a107 c108 w109 hs110 => ?_)
          have hs111 : St B w [] w109 [kU64.row a107 c108 ([(vget img l (r6.1 + 4)), (vget img l (r6.1 + 5)), (vget img l (r6.1 + 6)), (vget img l (r6.1 + 7))]), blk b105 (.cells [(.int .u64 (vget img l (r6.1 + 7)))].toArray 38 (0, 0)), blk b89 (.cells [(.int .u64 (vget img l (r6.1 + 6)))].toArray 38 (0, 0)), blk b73 (.cells [(.int .u64 (vget img l (r6.1 + 5)))].toArray 38 (0, 0)), blk b57 (.cells [(.int .u64 (vget img l (r6.1 + 4)))].toArray 38 (0, 0)), blk b4 (.cells [(.int .i64 0), (.int .u64 0), (.int .u64 0), (.string ByteArray.empty)].toArray 46 (0, 0))] := hs110
          refine ops_run 1 (by kernel_rfl) ?_
          refine ops_done (by kernel_rfl) ?_
          refine normal_block ?_
          refine hK98 _ _ ?_
          clear hK98
          refine W.region ?_
          refine ops_run 3 (by kernel_rfl) ?_
          refine ops_done (by kernel_rfl) ?_
          refine loopAt_next ?_
          refine loopAt_round ?_
          refine W.seq fun K112 hK112 => ?_
          refine W.seq fun K113 hK113 => ?_
          refine W.region ?_
          refine ops_run 2 (by kernel_rfl) ?_
          refine ops_done (by kernel_rfl) ?_
          refine hK113 _ _ ?_
          clear hK113
          refine W.cond_true true (by kernel_rfl) rfl ?_
          refine W.skip ?_
          refine hK112 _ _ ?_
          clear hK112
          refine W.seq fun K114 hK114 => ?_
          refine W.block ?_
          refine W.region ?_
          refine ops_run 4 (by kernel_rfl) ?_
          obtain ⟨h115, hm⟩ := need_some hm
          refine ops_val (v := .int .i64 (IntKind.i64.wrap (r6.1 + 8))) (v' := .int .i64 (r6.1 + 8)) (by kernel_rfl) (congrArg (Value.int .i64) (wrap_i64 h115.1 h115.2)) ?_
          refine ops_call0 hs111 (by kernel_rfl) (get_spec (at_ := (r6.1 + 8)) (hv := (viewAt_old hs111 hv)) B _) ?_
          rintro _ _ w116 ⟨rfl, rfl⟩ hs117
          have hs118 := St.ap0 hs117
          refine ops_new (fun b => .slice (some ⟨b, 0, none⟩) 1 1) (.cells [(.int .u64 (vget img l (r6.1 + 8)))].toArray 38 (0, 0)) hs118 (by kernel_rfl) (fun b121 w119 hs120 => ?_)
          have hs122 := St.f1 hs120
          refine ops_appendK kU64 (bytes := 8) (a' := (some ⟨b121, 0, none⟩)) (c' := 1) (l := [(vget img l (r6.1 + 4)), (vget img l (r6.1 + 5)), (vget img l (r6.1 + 6)), (vget img l (r6.1 + 7))]) (m := [(vget img l (r6.1 + 8))]) hs122 (by kernel_rfl) (by simp) (cells_blk (hs122.heapAt 1 rfl)) (by unfold maxLen; (try simp only [List.length_cons, List.length_nil]); omega) (by (try simp only [List.length_cons, List.length_nil]); omega) (fun a123 c124 w125 hs126 => ?_)
          have hs127 : St B w [] w125 [kU64.row a123 c124 ([(vget img l (r6.1 + 4)), (vget img l (r6.1 + 5)), (vget img l (r6.1 + 6)), (vget img l (r6.1 + 7)), (vget img l (r6.1 + 8))]), blk b121 (.cells [(.int .u64 (vget img l (r6.1 + 8)))].toArray 38 (0, 0)), blk b105 (.cells [(.int .u64 (vget img l (r6.1 + 7)))].toArray 38 (0, 0)), blk b89 (.cells [(.int .u64 (vget img l (r6.1 + 6)))].toArray 38 (0, 0)), blk b73 (.cells [(.int .u64 (vget img l (r6.1 + 5)))].toArray 38 (0, 0)), blk b57 (.cells [(.int .u64 (vget img l (r6.1 + 4)))].toArray 38 (0, 0)), blk b4 (.cells [(.int .i64 0), (.int .u64 0), (.int .u64 0), (.string ByteArray.empty)].toArray 46 (0, 0))] := hs126
          refine ops_run 1 (by kernel_rfl) ?_
          refine ops_done (by kernel_rfl) ?_
          refine normal_block ?_
          refine hK114 _ _ ?_
          clear hK114
          refine W.region ?_
          refine ops_run 3 (by kernel_rfl) ?_
          refine ops_done (by kernel_rfl) ?_
          refine loopAt_next ?_
          refine loopAt_round ?_
          refine W.seq fun K128 hK128 => ?_
          refine W.seq fun K129 hK129 => ?_
          refine W.region ?_
          refine ops_run 2 (by kernel_rfl) ?_
          refine ops_done (by kernel_rfl) ?_
          refine hK129 _ _ ?_
          clear hK129
          refine W.cond_true true (by kernel_rfl) rfl ?_
          refine W.skip ?_
          refine hK128 _ _ ?_
          clear hK128
          refine W.seq fun K130 hK130 => ?_
          refine W.block ?_
          refine W.region ?_
          refine ops_run 4 (by kernel_rfl) ?_
          obtain ⟨h131, hm⟩ := need_some hm
          refine ops_val (v := .int .i64 (IntKind.i64.wrap (r6.1 + 9))) (v' := .int .i64 (r6.1 + 9)) (by kernel_rfl) (congrArg (Value.int .i64) (wrap_i64 h131.1 h131.2)) ?_
          refine ops_call0 hs127 (by kernel_rfl) (get_spec (at_ := (r6.1 + 9)) (hv := (viewAt_old hs127 hv)) B _) ?_
          rintro _ _ w132 ⟨rfl, rfl⟩ hs133
          have hs134 := St.ap0 hs133
          refine ops_new (fun b => .slice (some ⟨b, 0, none⟩) 1 1) (.cells [(.int .u64 (vget img l (r6.1 + 9)))].toArray 38 (0, 0)) hs134 (by kernel_rfl) (fun b137 w135 hs136 => ?_)
          have hs138 := St.f1 hs136
          refine ops_appendK kU64 (bytes := 8) (a' := (some ⟨b137, 0, none⟩)) (c' := 1) (l := [(vget img l (r6.1 + 4)), (vget img l (r6.1 + 5)), (vget img l (r6.1 + 6)), (vget img l (r6.1 + 7)), (vget img l (r6.1 + 8))]) (m := [(vget img l (r6.1 + 9))]) hs138 (by kernel_rfl) (by simp) (cells_blk (hs138.heapAt 1 rfl)) (by unfold maxLen; (try simp only [List.length_cons, List.length_nil]); omega) (by (try simp only [List.length_cons, List.length_nil]); omega) (fun a139 c140 w141 hs142 => ?_)
          have hs143 : St B w [] w141 [kU64.row a139 c140 ([(vget img l (r6.1 + 4)), (vget img l (r6.1 + 5)), (vget img l (r6.1 + 6)), (vget img l (r6.1 + 7)), (vget img l (r6.1 + 8)), (vget img l (r6.1 + 9))]), blk b137 (.cells [(.int .u64 (vget img l (r6.1 + 9)))].toArray 38 (0, 0)), blk b121 (.cells [(.int .u64 (vget img l (r6.1 + 8)))].toArray 38 (0, 0)), blk b105 (.cells [(.int .u64 (vget img l (r6.1 + 7)))].toArray 38 (0, 0)), blk b89 (.cells [(.int .u64 (vget img l (r6.1 + 6)))].toArray 38 (0, 0)), blk b73 (.cells [(.int .u64 (vget img l (r6.1 + 5)))].toArray 38 (0, 0)), blk b57 (.cells [(.int .u64 (vget img l (r6.1 + 4)))].toArray 38 (0, 0)), blk b4 (.cells [(.int .i64 0), (.int .u64 0), (.int .u64 0), (.string ByteArray.empty)].toArray 46 (0, 0))] := hs142
          refine ops_run 1 (by kernel_rfl) ?_
          refine ops_done (by kernel_rfl) ?_
          refine normal_block ?_
          refine hK130 _ _ ?_
          clear hK130
          refine W.region ?_
          refine ops_run 3 (by kernel_rfl) ?_
          refine ops_done (by kernel_rfl) ?_
          refine loopAt_next ?_
          refine loopAt_round ?_
          refine W.seq fun K144 hK144 => ?_
          refine W.seq fun K145 hK145 => ?_
          refine W.region ?_
          refine ops_run 2 (by kernel_rfl) ?_
          refine ops_done (by kernel_rfl) ?_
          refine hK145 _ _ ?_
          clear hK145
          refine W.cond_true true (by kernel_rfl) rfl ?_
          refine W.skip ?_
          refine hK144 _ _ ?_
          clear hK144
          refine W.seq fun K146 hK146 => ?_
          refine W.block ?_
          refine W.region ?_
          refine ops_run 4 (by kernel_rfl) ?_
          obtain ⟨h147, hm⟩ := need_some hm
          refine ops_val (v := .int .i64 (IntKind.i64.wrap (r6.1 + 10))) (v' := .int .i64 (r6.1 + 10)) (by kernel_rfl) (congrArg (Value.int .i64) (wrap_i64 h147.1 h147.2)) ?_
          refine ops_call0 hs143 (by kernel_rfl) (get_spec (at_ := (r6.1 + 10)) (hv := (viewAt_old hs143 hv)) B _) ?_
          rintro _ _ w148 ⟨rfl, rfl⟩ hs149
          have hs150 := St.ap0 hs149
          refine ops_new (fun b => .slice (some ⟨b, 0, none⟩) 1 1) (.cells [(.int .u64 (vget img l (r6.1 + 10)))].toArray 38 (0, 0)) hs150 (by kernel_rfl) (fun b153 w151 hs152 => ?_)
          have hs154 := St.f1 hs152
          refine ops_appendK kU64 (bytes := 8) (a' := (some ⟨b153, 0, none⟩)) (c' := 1) (l := [(vget img l (r6.1 + 4)), (vget img l (r6.1 + 5)), (vget img l (r6.1 + 6)), (vget img l (r6.1 + 7)), (vget img l (r6.1 + 8)), (vget img l (r6.1 + 9))]) (m := [(vget img l (r6.1 + 10))]) hs154 (by kernel_rfl) (by simp) (cells_blk (hs154.heapAt 1 rfl)) (by unfold maxLen; (try simp only [List.length_cons, List.length_nil]); omega) (by (try simp only [List.length_cons, List.length_nil]); omega) (fun a155 c156 w157 hs158 => ?_)
          have hs159 : St B w [] w157 [kU64.row a155 c156 ([(vget img l (r6.1 + 4)), (vget img l (r6.1 + 5)), (vget img l (r6.1 + 6)), (vget img l (r6.1 + 7)), (vget img l (r6.1 + 8)), (vget img l (r6.1 + 9)), (vget img l (r6.1 + 10))]), blk b153 (.cells [(.int .u64 (vget img l (r6.1 + 10)))].toArray 38 (0, 0)), blk b137 (.cells [(.int .u64 (vget img l (r6.1 + 9)))].toArray 38 (0, 0)), blk b121 (.cells [(.int .u64 (vget img l (r6.1 + 8)))].toArray 38 (0, 0)), blk b105 (.cells [(.int .u64 (vget img l (r6.1 + 7)))].toArray 38 (0, 0)), blk b89 (.cells [(.int .u64 (vget img l (r6.1 + 6)))].toArray 38 (0, 0)), blk b73 (.cells [(.int .u64 (vget img l (r6.1 + 5)))].toArray 38 (0, 0)), blk b57 (.cells [(.int .u64 (vget img l (r6.1 + 4)))].toArray 38 (0, 0)), blk b4 (.cells [(.int .i64 0), (.int .u64 0), (.int .u64 0), (.string ByteArray.empty)].toArray 46 (0, 0))] := hs158
          refine ops_run 1 (by kernel_rfl) ?_
          refine ops_done (by kernel_rfl) ?_
          refine normal_block ?_
          refine hK146 _ _ ?_
          clear hK146
          refine W.region ?_
          refine ops_run 3 (by kernel_rfl) ?_
          refine ops_done (by kernel_rfl) ?_
          refine loopAt_next ?_
          refine loopAt_round ?_
          refine W.seq fun K160 hK160 => ?_
          refine W.seq fun K161 hK161 => ?_
          refine W.region ?_
          refine ops_run 2 (by kernel_rfl) ?_
          refine ops_done (by kernel_rfl) ?_
          refine hK161 _ _ ?_
          clear hK161
          refine W.cond_true true (by kernel_rfl) rfl ?_
          refine W.skip ?_
          refine hK160 _ _ ?_
          clear hK160
          refine W.seq fun K162 hK162 => ?_
          refine W.block ?_
          refine W.region ?_
          refine ops_run 4 (by kernel_rfl) ?_
          obtain ⟨h163, hm⟩ := need_some hm
          refine ops_val (v := .int .i64 (IntKind.i64.wrap (r6.1 + 11))) (v' := .int .i64 (r6.1 + 11)) (by kernel_rfl) (congrArg (Value.int .i64) (wrap_i64 h163.1 h163.2)) ?_
          refine ops_call0 hs159 (by kernel_rfl) (get_spec (at_ := (r6.1 + 11)) (hv := (viewAt_old hs159 hv)) B _) ?_
          rintro _ _ w164 ⟨rfl, rfl⟩ hs165
          have hs166 := St.ap0 hs165
          refine ops_new (fun b => .slice (some ⟨b, 0, none⟩) 1 1) (.cells [(.int .u64 (vget img l (r6.1 + 11)))].toArray 38 (0, 0)) hs166 (by kernel_rfl) (fun b169 w167 hs168 => ?_)
          have hs170 := St.f1 hs168
          refine ops_appendK kU64 (bytes := 8) (a' := (some ⟨b169, 0, none⟩)) (c' := 1) (l := [(vget img l (r6.1 + 4)), (vget img l (r6.1 + 5)), (vget img l (r6.1 + 6)), (vget img l (r6.1 + 7)), (vget img l (r6.1 + 8)), (vget img l (r6.1 + 9)), (vget img l (r6.1 + 10))]) (m := [(vget img l (r6.1 + 11))]) hs170 (by kernel_rfl) (by simp) (cells_blk (hs170.heapAt 1 rfl)) (by unfold maxLen; (try simp only [List.length_cons, List.length_nil]); omega) (by (try simp only [List.length_cons, List.length_nil]); omega) (fun a171 c172 w173 hs174 => ?_)
          have hs175 : St B w [] w173 [kU64.row a171 c172 ([(vget img l (r6.1 + 4)), (vget img l (r6.1 + 5)), (vget img l (r6.1 + 6)), (vget img l (r6.1 + 7)), (vget img l (r6.1 + 8)), (vget img l (r6.1 + 9)), (vget img l (r6.1 + 10)), (vget img l (r6.1 + 11))]), blk b169 (.cells [(.int .u64 (vget img l (r6.1 + 11)))].toArray 38 (0, 0)), blk b153 (.cells [(.int .u64 (vget img l (r6.1 + 10)))].toArray 38 (0, 0)), blk b137 (.cells [(.int .u64 (vget img l (r6.1 + 9)))].toArray 38 (0, 0)), blk b121 (.cells [(.int .u64 (vget img l (r6.1 + 8)))].toArray 38 (0, 0)), blk b105 (.cells [(.int .u64 (vget img l (r6.1 + 7)))].toArray 38 (0, 0)), blk b89 (.cells [(.int .u64 (vget img l (r6.1 + 6)))].toArray 38 (0, 0)), blk b73 (.cells [(.int .u64 (vget img l (r6.1 + 5)))].toArray 38 (0, 0)), blk b57 (.cells [(.int .u64 (vget img l (r6.1 + 4)))].toArray 38 (0, 0)), blk b4 (.cells [(.int .i64 0), (.int .u64 0), (.int .u64 0), (.string ByteArray.empty)].toArray 46 (0, 0))] := hs174
          refine ops_run 1 (by kernel_rfl) ?_
          refine ops_done (by kernel_rfl) ?_
          refine normal_block ?_
          refine hK162 _ _ ?_
          clear hK162
          refine W.region ?_
          refine ops_run 3 (by kernel_rfl) ?_
          refine ops_done (by kernel_rfl) ?_
          refine loopAt_next ?_
          refine loopAt_round ?_
          refine W.seq fun K176 hK176 => ?_
          refine W.seq fun K177 hK177 => ?_
          refine W.region ?_
          refine ops_run 2 (by kernel_rfl) ?_
          refine ops_done (by kernel_rfl) ?_
          refine hK177 _ _ ?_
          clear hK177
          refine W.cond_false false (by kernel_rfl) rfl ?_
          refine W.exit (exit_seq (exit_seq (exit_here ?_)))
          refine hK46 _ _ ?_
          clear hK46
          refine W.seq fun K178 hK178 => ?_
          refine W.region ?_
          refine ops_run 2 (by kernel_rfl) ?_
          obtain ⟨h179, hm⟩ := need_some hm
          refine ops_val (v := .int .i64 (IntKind.i64.wrap r33)) (v' := .int .i64 r33) (by kernel_rfl) (congrArg (Value.int .i64) (wrap_i64 h179.1 h179.2)) ?_
          obtain ⟨r180, h181, hm⟩ := bind_some hm
          refine ops_call0 hs175 (by kernel_rfl) (unpack_walk (ws := [(vget img l (r6.1 + 4)), (vget img l (r6.1 + 5)), (vget img l (r6.1 + 6)), (vget img l (r6.1 + 7)), (vget img l (r6.1 + 8)), (vget img l (r6.1 + 9)), (vget img l (r6.1 + 10)), (vget img l (r6.1 + 11))]) (n_ := r33) (wa := a171) (wc := c172) (hw := (St.kcells kU64 hs175 0 rfl)) (hm := h181) B _) ?_
          rintro _ _ w182 ⟨rfl, rfl⟩ hs183
          have hs184 := St.ap0 hs183
          refine ops_run 5 (by kernel_rfl) ?_
          refine ops_done (by kernel_rfl) ?_
          refine hK178 _ _ ?_
          clear hK178
          refine W.seq fun K185 hK185 => ?_
          refine W.seq fun K186 hK186 => ?_
          refine W.region ?_
          refine ops_run 2 (by kernel_rfl) ?_
          refine ops_done (by kernel_rfl) ?_
          refine hK186 _ _ ?_
          clear hK186
          refine W.cond (!decide (r180.2 = 0)) (by kernel_rfl) (fun h187 => ?_) (fun h187 => ?_)
          rotate_left
          ·
            have h187p : r180.2 = 0 := of_decide_eq_true (bnot_false h187)
            replace hm := ite_yes hm h187p
            refine W.skip ?_
            refine hK185 _ _ ?_
            clear hK185
            refine W.seq fun K188 hK188 => ?_
            refine W.region ?_
            refine ops_run 2 (by kernel_rfl) ?_
            refine ops_call0 hs184 (by kernel_rfl) (get_spec (at_ := r6.1) (hv := (viewAt_old hs184 hv)) B _) ?_
            rintro _ _ w189 ⟨rfl, rfl⟩ hs190
            have hs191 := St.ap0 hs190
            refine ops_run 1 (by kernel_rfl) ?_
            obtain ⟨h192, hm⟩ := need_some hm
            refine ops_val (v := .int .i64 (IntKind.i64.wrap r31)) (v' := .int .i64 r31) (by kernel_rfl) (congrArg (Value.int .i64) (wrap_i64 h192.1 h192.2)) ?_
            refine ops_run 2 (by kernel_rfl) ?_
            obtain ⟨h193, hm⟩ := need_some hm
            refine ops_val (v := .int .i64 (IntKind.i64.wrap (r6.1 + 2))) (v' := .int .i64 (r6.1 + 2)) (by kernel_rfl) (congrArg (Value.int .i64) (wrap_i64 h193.1 h193.2)) ?_
            refine ops_call0 hs191 (by kernel_rfl) (get_spec (at_ := (r6.1 + 2)) (hv := (viewAt_old hs191 hv)) B _) ?_
            rintro _ _ w194 ⟨rfl, rfl⟩ hs195
            have hs196 := St.ap0 hs195
            refine ops_run 2 (by kernel_rfl) ?_
            obtain ⟨h197, hm⟩ := need_some hm
            refine ops_val (v := .int .i64 (IntKind.i64.wrap (r6.1 + 3))) (v' := .int .i64 (r6.1 + 3)) (by kernel_rfl) (congrArg (Value.int .i64) (wrap_i64 h197.1 h197.2)) ?_
            refine ops_call0 hs196 (by kernel_rfl) (get_spec (at_ := (r6.1 + 3)) (hv := (viewAt_old hs196 hv)) B _) ?_
            rintro _ _ w198 ⟨rfl, rfl⟩ hs199
            have hs200 := St.ap0 hs199
            refine ops_run 3 (by kernel_rfl) ?_
            have hs203 := St.f9 hs200
            refine ops_store (off := 0) (cs := [(.int .i64 0), (.int .u64 0), (.int .u64 0), (.string ByteArray.empty)]) (vs := [(.int .i64 r31), (.int .u64 (vget img l (r6.1 + 2))), (.int .u64 (vget img l (r6.1 + 3))), (.string r180.1)]) hs203 (by kernel_rfl) (by simp) rfl (fun w201 hs202 => ?_)
            have hs204 : St B w [] w201 [blk b4 (.cells [(.int .i64 r31), (.int .u64 (vget img l (r6.1 + 2))), (.int .u64 (vget img l (r6.1 + 3))), (.string r180.1)].toArray 46 (0, 0)), kU64.row a171 c172 ([(vget img l (r6.1 + 4)), (vget img l (r6.1 + 5)), (vget img l (r6.1 + 6)), (vget img l (r6.1 + 7)), (vget img l (r6.1 + 8)), (vget img l (r6.1 + 9)), (vget img l (r6.1 + 10)), (vget img l (r6.1 + 11))]), blk b169 (.cells [(.int .u64 (vget img l (r6.1 + 11)))].toArray 38 (0, 0)), blk b153 (.cells [(.int .u64 (vget img l (r6.1 + 10)))].toArray 38 (0, 0)), blk b137 (.cells [(.int .u64 (vget img l (r6.1 + 9)))].toArray 38 (0, 0)), blk b121 (.cells [(.int .u64 (vget img l (r6.1 + 8)))].toArray 38 (0, 0)), blk b105 (.cells [(.int .u64 (vget img l (r6.1 + 7)))].toArray 38 (0, 0)), blk b89 (.cells [(.int .u64 (vget img l (r6.1 + 6)))].toArray 38 (0, 0)), blk b73 (.cells [(.int .u64 (vget img l (r6.1 + 5)))].toArray 38 (0, 0)), blk b57 (.cells [(.int .u64 (vget img l (r6.1 + 4)))].toArray 38 (0, 0))] := hs202
            refine ops_run 1 (by kernel_rfl) ?_
            refine ops_done (by kernel_rfl) ?_
            refine hK188 _ _ ?_
            clear hK188
            refine W.ret ?_
            obtain rfl := some_inj hm
            have hs205 := St.tk0 hs204
            refine ret_of (.tuple #[(.int .u64 (vget img l r6.1)), (.agg #[(.int .i64 r31), (.int .u64 (vget img l (r6.1 + 2))), (.int .u64 (vget img l (r6.1 + 3))), (.string r180.1)]), (.int .i64 0)]) (resS_of (by kernel_rfl) (resD_three rfl (.tmp (by kernel_rfl)) (.agg (ad := ⟨b4, 0, none⟩) (cs := [(.int .i64 r31), (.int .u64 (vget img l (r6.1 + 2))), (.int .u64 (vget img l (r6.1 + 3))), (.string r180.1)]) (by kernel_rfl) (by kernel_rfl) (cells_sub (hs204.heapAt 0 rfl) rfl)) (.tmp (by kernel_rfl)))) ⟨_, ⟨rfl, rfl⟩, hs205⟩
          ·
            have h187p : ¬ (r180.2 = 0) := of_decide_eq_false (bnot_true h187)
            replace hm := ite_no hm h187p
            refine W.seq fun K206 hK206 => ?_
            refine W.region ?_
            refine ops_run 3 (by kernel_rfl) ?_
            have hs209 := St.f9 hs184
            refine ops_store (off := 0) (cs := [(.int .i64 0), (.int .u64 0), (.int .u64 0), (.string ByteArray.empty)]) (vs := [(.int .i64 0), (.int .u64 0), (.int .u64 0), (.string ByteArray.empty)]) hs209 (by kernel_rfl) (by simp) rfl (fun w207 hs208 => ?_)
            have hs210 : St B w [] w207 [blk b4 (.cells [(.int .i64 0), (.int .u64 0), (.int .u64 0), (.string ByteArray.empty)].toArray 46 (0, 0)), kU64.row a171 c172 ([(vget img l (r6.1 + 4)), (vget img l (r6.1 + 5)), (vget img l (r6.1 + 6)), (vget img l (r6.1 + 7)), (vget img l (r6.1 + 8)), (vget img l (r6.1 + 9)), (vget img l (r6.1 + 10)), (vget img l (r6.1 + 11))]), blk b169 (.cells [(.int .u64 (vget img l (r6.1 + 11)))].toArray 38 (0, 0)), blk b153 (.cells [(.int .u64 (vget img l (r6.1 + 10)))].toArray 38 (0, 0)), blk b137 (.cells [(.int .u64 (vget img l (r6.1 + 9)))].toArray 38 (0, 0)), blk b121 (.cells [(.int .u64 (vget img l (r6.1 + 8)))].toArray 38 (0, 0)), blk b105 (.cells [(.int .u64 (vget img l (r6.1 + 7)))].toArray 38 (0, 0)), blk b89 (.cells [(.int .u64 (vget img l (r6.1 + 6)))].toArray 38 (0, 0)), blk b73 (.cells [(.int .u64 (vget img l (r6.1 + 5)))].toArray 38 (0, 0)), blk b57 (.cells [(.int .u64 (vget img l (r6.1 + 4)))].toArray 38 (0, 0))] := hs208
            refine ops_run 1 (by kernel_rfl) ?_
            refine ops_done (by kernel_rfl) ?_
            refine hK206 _ _ ?_
            clear hK206
            refine W.ret (ret_seq ?_)
            obtain rfl := some_inj hm
            have hs211 := St.tk0 hs210
            refine ret_of (.tuple #[(.int .u64 0), (.agg #[(.int .i64 0), (.int .u64 0), (.int .u64 0), (.string ByteArray.empty)]), (.int .i64 r180.2)]) (resS_of (by kernel_rfl) (resD_three rfl (.tmp (by kernel_rfl)) (.agg (ad := ⟨b4, 0, none⟩) (cs := [(.int .i64 0), (.int .u64 0), (.int .u64 0), (.string ByteArray.empty)]) (by kernel_rfl) (by kernel_rfl) (cells_sub (hs210.heapAt 0 rfl) rfl)) (.tmp (by kernel_rfl)))) ⟨_, ⟨rfl, rfl⟩, hs211⟩
      ·
        refine W.region ?_
        refine ops_run 3 (by kernel_rfl) ?_
        rcases Bool.eq_false_or_eq_true (decide (r31 > 24)) with h212 | h212
        ·
          have h212p : r31 > 24 := of_decide_eq_true h212
          replace hm := ite_yes hm h212p
          refine ops_set 44 (v := .bool true) (eq_bool_of (by kernel_rfl) h212) ?_
          refine ops_set 43 (v := .bool true) (eq_bool_of (by kernel_rfl) h212) ?_
          refine ops_run 3 (by kernel_rfl) ?_
          refine ops_done (by kernel_rfl) ?_
          exact ⟨true, slots_intro _ (by kernel_rfl), hs29, hm⟩
        ·
          have h212p : ¬ (r31 > 24) := of_decide_eq_false h212
          replace hm := ite_no hm h212p
          refine ops_set 44 (v := .bool false) (eq_bool_of (by kernel_rfl) h212) ?_
          refine ops_set 43 (v := .bool false) (eq_bool_of (by kernel_rfl) h212) ?_
          refine ops_run 3 (by kernel_rfl) ?_
          refine ops_done (by kernel_rfl) ?_
          exact ⟨(decide (r33 > 64)), slots_intro _ (by kernel_rfl), hs29, hm⟩
  ·
    refine W.region ?_
    refine ops_run 3 (by kernel_rfl) ?_
    rcases Bool.eq_false_or_eq_true (!decide (r6.2 = 0)) with h213 | h213
    rotate_left
    ·
      have h213p : r6.2 = 0 := of_decide_eq_true (bnot_false h213)
      replace hm := ite_yes hm h213p
      refine ops_set 24 (v := .bool false) (eq_bool_of (by kernel_rfl) h213) ?_
      refine ops_set 23 (v := .bool false) (eq_bool_of (by kernel_rfl) h213) ?_
      refine ops_run 2 (by kernel_rfl) ?_
      refine ops_call0 hs10 (by kernel_rfl) (get_spec (at_ := r6.1) (hv := (viewAt_old hs10 hv)) B _) ?_
      rintro _ _ w214 ⟨rfl, rfl⟩ hs215
      have hs216 := St.ap0 hs215
      refine ops_run 2 (by kernel_rfl) ?_
      refine ops_done (by kernel_rfl) ?_
      exact ⟨(decide ((vget img l r6.1) = 0)), slots_intro _ (by kernel_rfl), hs216, hm⟩
    ·
      have h213p : ¬ (r6.2 = 0) := of_decide_eq_false (bnot_true h213)
      replace hm := ite_no hm h213p
      refine ops_set 24 (v := .bool true) (eq_bool_of (by kernel_rfl) h213) ?_
      refine ops_set 23 (v := .bool true) (eq_bool_of (by kernel_rfl) h213) ?_
      refine ops_run 5 (by kernel_rfl) ?_
      refine ops_done (by kernel_rfl) ?_
      exact ⟨true, slots_intro _ (by kernel_rfl), hs10, hm⟩

end Go.Proofs.YthimamnblklkbaaDoor
