/- Texts of one kind, one behind the other: A7h, A7i, Pa, Pf, Pt. -/
import Derived.Test.YthimamnblklkbaaDoorGD
import Derived.Test.YthimamnblklkbaaDoorGF
import Derived.Test.YthimamnblklkbaaDoorGG
set_option linter.unusedVariables false
set_option linter.unusedSimpArgs false
/- What the code computes, by a program. -/
namespace Go.Proofs.YthimamnblklkbaaDoor
open Go Go.RowKit
set_option linter.unusedSimpArgs false
set_option linter.unusedVariables false

def rmget_M (img : List Int) (l : List (Int × Int)) (at_ : Int) (many : Int) (i_ : Int) : Option (Bool) :=
  if i_ ≥ 0 then (if i_ < many then (need (-9223372036854775808 ≤ (i_.tdiv 64) ∧ (i_.tdiv 64) ≤ 9223372036854775807) <|
need (-9223372036854775808 ≤ (at_ + (i_.tdiv 64)) ∧ (at_ + (i_.tdiv 64)) ≤ 9223372036854775807) <|
need (0 ≤ (i_.tmod 64) ∧ (i_.tmod 64) ≤ 18446744073709551615) <|
need (0 ≤ i_.tmod 64) <|
some (decide ((shrK .u64 (vget img l (at_ + (i_.tdiv 64))) (i_.tmod 64)).tmod 2 = 1))) else (some false)) else (some false)

set_option maxRecDepth 20000 in
set_option linter.unusedVariables false in
theorem rmget_walk {img : List Int} {l : List (Int × Int)} {at_ : Int} {many : Int} {i_ : Int} {mb vb : Nat} {r : Bool} (B : Nat) (w : World) (hmb : w.heap[mb]? = some (.cells [(.pointer (some ⟨vb, 0, none⟩)), (.int .i64 at_), (.int .i64 many)].toArray 202 (0, 0))) (hv : RefAt (ptr vb) img l w) (hm : rmget_M img l at_ many i_ = some r) : Spec Tryd.prog 138 #[(.pointer (some ⟨mb, 0, none⟩)), (.int .i64 i_)] B w [] (fun v H' => v = .bool r ∧ H' = []) := by
  refine spec_Q Tryd.func138 rfl fun hs => ?_
  unfold rmget_M at hm
  refine W.seq fun K1 hK1 => ?_
  refine W.region ?_
  refine ops_run 1 (by kernel_rfl) ?_
  refine ops_done (by kernel_rfl) ?_
  refine hK1 _ _ ?_
  clear hK1
  refine W.seq fun K2 hK2 => ?_
  have hs3 := hs.drew
  refine W.regionD [(0, 0), (1, 1), (2, 2), (4, 4), (4, 4), (20, 20), (36, 36), (68, 68), (140, 140), (260, 260), (516, 512), (1024, 1024), (3072, 3072), (5120, 5120), (9216, 9216), (1024, 1024), (33792, 33792), (66560, 66560), (132096, 132096), (1024, 1024), (525312, 525312), (1311744, 1311744), (2114560, 2114560), (1024, 1024), (8389632, 8389632), (16778240, 16778240), (37749760, 37749760), (67109888, 67109888), (134218752, 134218752), (268436480, 268436480), (1073741823, 536870912)] (fun w_ => St B w [] w_ []) (by kernel_rfl) hs3 ?_
  refine any_val (v := (.int .i64 i_)) (v' := (.int .i64 i_)) 0 (by kernel_rfl) (fun _ => by kernel_rfl) rfl hs3 ?_
  refine any_val (v := (.bool (decide (i_ ≥ 0)))) (v' := (.bool (decide (i_ ≥ 0)))) 1 (by kernel_rfl) (fun _ => by kernel_rfl) rfl hs3 ?_
  refine any_val (v := (.bool (decide (i_ ≥ 0)))) (v' := (.bool (decide (i_ ≥ 0)))) 2 (by kernel_rfl) (fun _ => by kernel_rfl) rfl hs3 ?_
  rcases Bool.eq_false_or_eq_true (decide (i_ ≥ 0)) with h4 | h4
  ·
    have h4p : i_ ≥ 0 := of_decide_eq_true h4
    replace hm := ite_yes hm h4p
    refine any_set 6 (v := .bool true) (eq_bool_of (by kernel_rfl) h4) ?_
    refine any_set 7 (v := .bool true) (eq_bool_of (by kernel_rfl) h4) ?_
    refine any_val (v := (.int .i64 i_)) (v' := (.int .i64 i_)) 3 (by kernel_rfl) (fun _ => by kernel_rfl) rfl hs3 ?_
    refine any_val (v := (.pointer (some ⟨mb, 0, none⟩))) (v' := (.pointer (some ⟨mb, 0, none⟩))) 4 (by kernel_rfl) (fun _ => by kernel_rfl) rfl hs3 ?_
    refine any_val (v := (.pointer (some ⟨mb, 0, none⟩))) (v' := (.pointer (some ⟨mb, 0, none⟩))) 5 (by kernel_rfl) (fun _ => by kernel_rfl) rfl hs3 ?_
    refine any_val (v := (.pointer (some ⟨mb, 2, none⟩))) (v' := (.pointer (some ⟨mb, 2, none⟩))) 6 (by kernel_rfl) (fun _ => by kernel_rfl) rfl hs3 ?_
    refine any_R 7 (by kernel_rfl) (fun _ hS_ => runs_load (ad := ⟨mb, 2, none⟩) (v := (.int .i64 many)) (by kernel_rfl) (cell_of_blk (hS_.old hmb) rfl)) hs3 ?_
    refine any_val (v := (.bool (decide (i_ < many)))) (v' := (.bool (decide (i_ < many)))) 8 (by kernel_rfl) (fun _ => by kernel_rfl) rfl hs3 ?_
    refine any_val (v := (.bool (decide (i_ < many)))) (v' := (.bool (decide (i_ < many)))) 9 (by kernel_rfl) (fun _ => by kernel_rfl) rfl hs3 ?_
    refine any_val (v := (.bool (decide (i_ < many)))) (v' := (.bool (decide (i_ < many)))) 10 (by kernel_rfl) (fun _ => by kernel_rfl) rfl hs3 ?_
    rcases Bool.eq_false_or_eq_true (decide (i_ < many)) with h5 | h5
    ·
      have h5p : i_ < many := of_decide_eq_true h5
      replace hm := ite_yes hm h5p
      refine any_set 13 (v := .bool true) (eq_bool_of (by kernel_rfl) h5) ?_
      refine any_set 14 (v := .bool true) (eq_bool_of (by kernel_rfl) h5) ?_
      refine any_set 15 (v := .bool true) (eq_bool_of (by kernel_rfl) h5) ?_
      refine any_val (v := (.pointer (some ⟨mb, 0, none⟩))) (v' := (.pointer (some ⟨mb, 0, none⟩))) 11 (by kernel_rfl) (fun _ => by kernel_rfl) rfl hs3 ?_
      refine any_val (v := (.pointer (some ⟨mb, 0, none⟩))) (v' := (.pointer (some ⟨mb, 0, none⟩))) 12 (by kernel_rfl) (fun _ => by kernel_rfl) rfl hs3 ?_
      refine any_val (v := (.pointer (some ⟨mb, 0, none⟩))) (v' := (.pointer (some ⟨mb, 0, none⟩))) 13 (by kernel_rfl) (fun _ => by kernel_rfl) rfl hs3 ?_
      refine any_R 14 (by kernel_rfl) (fun _ hS_ => runs_load (ad := ⟨mb, 0, none⟩) (v := (.pointer (some ⟨vb, 0, none⟩))) (by kernel_rfl) (cell_of_blk (hS_.old hmb) rfl)) hs3 ?_
      refine any_val (v := (.pointer (some ⟨mb, 0, none⟩))) (v' := (.pointer (some ⟨mb, 0, none⟩))) 15 (by kernel_rfl) (fun _ => by kernel_rfl) rfl hs3 ?_
      refine any_val (v := (.pointer (some ⟨mb, 0, none⟩))) (v' := (.pointer (some ⟨mb, 0, none⟩))) 16 (by kernel_rfl) (fun _ => by kernel_rfl) rfl hs3 ?_
      refine any_val (v := (.pointer (some ⟨mb, 1, none⟩))) (v' := (.pointer (some ⟨mb, 1, none⟩))) 17 (by kernel_rfl) (fun _ => by kernel_rfl) rfl hs3 ?_
      refine any_R 18 (by kernel_rfl) (fun _ hS_ => runs_load (ad := ⟨mb, 1, none⟩) (v := (.int .i64 at_)) (by kernel_rfl) (cell_of_blk (hS_.old hmb) rfl)) hs3 ?_
      refine any_val (v := (.int .i64 i_)) (v' := (.int .i64 i_)) 19 (by kernel_rfl) (fun _ => by kernel_rfl) rfl hs3 ?_
      obtain ⟨h6, hm⟩ := need_some hm
      refine any_R (v := .int .i64 (i_.tdiv 64)) 20 (by kernel_rfl) (fun _ hS_ => runs_quo (k := .i64) (a := i_) (b := 64) (by kernel_rfl) (by decide) (wrap_i64 h6.1 h6.2)) hs3 ?_
      obtain ⟨h7, hm⟩ := need_some hm
      refine any_val (v := .int .i64 (IntKind.i64.wrap (at_ + (i_.tdiv 64)))) (v' := .int .i64 (at_ + (i_.tdiv 64))) 21 (by kernel_rfl) (fun _ => by kernel_rfl) (congrArg (Value.int .i64) (wrap_i64 h7.1 h7.2)) hs3 ?_
      refine any_val (v := (.int .i64 i_)) (v' := (.int .i64 i_)) 23 (by kernel_rfl) (fun _ => by kernel_rfl) rfl hs3 ?_
      refine any_val (v := (.int .i64 (i_.tmod 64))) (v' := (.int .i64 (i_.tmod 64))) 24 (by kernel_rfl) (fun _ => by kernel_rfl) rfl hs3 ?_
      obtain ⟨h8, hm⟩ := need_some hm
      refine any_val (v := .int .u64 (IntKind.u64.wrap (i_.tmod 64))) (v' := .int .u64 (i_.tmod 64)) 25 (by kernel_rfl) (fun _ => by kernel_rfl) (congrArg (Value.int .u64) (wrap_u64 h8.1 (Int.lt_of_le_of_lt h8.2 (by decide)))) hs3 ?_
      refine any_step 22 (by kernel_rfl) (by kernel_rfl) ?_
      refine ops_call0 hs3 (by kernel_rfl) (rget_spec (at_ := (at_ + (i_.tdiv 64))) (hv := (refAt_old hs3 hv)) B _) ?_
      rintro _ _ w9 ⟨rfl, rfl⟩ hs10
      have hs11 := St.ap0 hs10
      refine ops_done (by kernel_rfl) ⟨hs11, ?_⟩
      obtain ⟨h12, hm⟩ := need_some hm
      refine any_R (v := .int .u64 (shrK .u64 (vget img l (at_ + (i_.tdiv 64))) (i_.tmod 64))) 26 (by kernel_rfl) (fun _ hS_ => runs_shift (b := false) (k := .u64) (x := (vget img l (at_ + (i_.tdiv 64)))) (y := i_.tmod 64) (by kernel_rfl) h12) hs11 ?_
      refine any_val (v := (.int .u64 ((shrK .u64 (vget img l (at_ + (i_.tdiv 64))) (i_.tmod 64)).tmod 2))) (v' := (.int .u64 ((shrK .u64 (vget img l (at_ + (i_.tdiv 64))) (i_.tmod 64)).tmod 2))) 27 (by kernel_rfl) (fun _ => by kernel_rfl) rfl hs11 ?_
      refine any_val (v := (.bool (decide ((shrK .u64 (vget img l (at_ + (i_.tdiv 64))) (i_.tmod 64)).tmod 2 = 1)))) (v' := (.bool (decide ((shrK .u64 (vget img l (at_ + (i_.tdiv 64))) (i_.tmod 64)).tmod 2 = 1)))) 28 (by kernel_rfl) (fun _ => by kernel_rfl) rfl hs11 ?_
      refine any_val (v := (.bool (decide ((shrK .u64 (vget img l (at_ + (i_.tdiv 64))) (i_.tmod 64)).tmod 2 = 1)))) (v' := (.bool (decide ((shrK .u64 (vget img l (at_ + (i_.tdiv 64))) (i_.tmod 64)).tmod 2 = 1)))) 29 (by kernel_rfl) (fun _ => by kernel_rfl) rfl hs11 ?_
      refine any_val (v := (.bool (decide ((shrK .u64 (vget img l (at_ + (i_.tdiv 64))) (i_.tmod 64)).tmod 2 = 1)))) (v' := (.bool (decide ((shrK .u64 (vget img l (at_ + (i_.tdiv 64))) (i_.tmod 64)).tmod 2 = 1)))) 30 (by kernel_rfl) (fun _ => by kernel_rfl) rfl hs11 ?_
      refine any_done (by kernel_rfl) ?_
      refine hK2 _ _ ?_
      clear hK2
      refine W.ret ?_
      obtain rfl := some_inj hm
      refine ret_of (.bool (decide ((shrK .u64 (vget img l (at_ + (i_.tdiv 64))) (i_.tmod 64)).tmod 2 = 1))) (by kernel_rfl) ⟨_, ⟨rfl, rfl⟩, hs11⟩
    ·
      have h5p : ¬ (i_ < many) := of_decide_eq_false h5
      replace hm := ite_no hm h5p
      refine any_set 13 (v := .bool false) (eq_bool_of (by kernel_rfl) h5) ?_
      refine any_set 14 (v := .bool false) (eq_bool_of (by kernel_rfl) h5) ?_
      refine any_set 15 (v := .bool false) (eq_bool_of (by kernel_rfl) h5) ?_
      refine any_skip 11 (by kernel_rfl) (by kernel_rfl) hs3 ?_
      refine any_skip 12 (by kernel_rfl) (by kernel_rfl) hs3 ?_
      refine any_skip 13 (by kernel_rfl) (by kernel_rfl) hs3 ?_
      refine any_skip 14 (by kernel_rfl) (by kernel_rfl) hs3 ?_
      refine any_skip 15 (by kernel_rfl) (by kernel_rfl) hs3 ?_
      refine any_skip 16 (by kernel_rfl) (by kernel_rfl) hs3 ?_
      refine any_skip 17 (by kernel_rfl) (by kernel_rfl) hs3 ?_
      refine any_skip 18 (by kernel_rfl) (by kernel_rfl) hs3 ?_
      refine any_skip 19 (by kernel_rfl) (by kernel_rfl) hs3 ?_
      refine any_skip 20 (by kernel_rfl) (by kernel_rfl) hs3 ?_
      refine any_skip 21 (by kernel_rfl) (by kernel_rfl) hs3 ?_
      refine any_skip 22 (by kernel_rfl) (by kernel_rfl) hs3 ?_
      refine any_skip 23 (by kernel_rfl) (by kernel_rfl) hs3 ?_
      refine any_skip 24 (by kernel_rfl) (by kernel_rfl) hs3 ?_
      refine any_skip 25 (by kernel_rfl) (by kernel_rfl) hs3 ?_
      refine any_skip 26 (by kernel_rfl) (by kernel_rfl) hs3 ?_
      refine any_skip 27 (by kernel_rfl) (by kernel_rfl) hs3 ?_
      refine any_skip 28 (by kernel_rfl) (by kernel_rfl) hs3 ?_
      refine any_val (v := (.bool false)) (v' := (.bool false)) 29 (by kernel_rfl) (fun _ => by kernel_rfl) rfl hs3 ?_
      refine any_val (v := (.bool false)) (v' := (.bool false)) 30 (by kernel_rfl) (fun _ => by kernel_rfl) rfl hs3 ?_
      refine any_done (by kernel_rfl) ?_
      refine hK2 _ _ ?_
      clear hK2
      refine W.ret ?_
      obtain rfl := some_inj hm
      refine ret_of (.bool false) (by kernel_rfl) ⟨_, ⟨rfl, rfl⟩, hs3⟩
  ·
    have h4p : ¬ (i_ ≥ 0) := of_decide_eq_false h4
    replace hm := ite_no hm h4p
    refine any_set 6 (v := .bool false) (eq_bool_of (by kernel_rfl) h4) ?_
    refine any_set 7 (v := .bool false) (eq_bool_of (by kernel_rfl) h4) ?_
    refine any_skip 3 (by kernel_rfl) (by kernel_rfl) hs3 ?_
    refine any_skip 4 (by kernel_rfl) (by kernel_rfl) hs3 ?_
    refine any_skip 5 (by kernel_rfl) (by kernel_rfl) hs3 ?_
    refine any_skip 6 (by kernel_rfl) (by kernel_rfl) hs3 ?_
    refine any_skip 7 (by kernel_rfl) (by kernel_rfl) hs3 ?_
    refine any_skip 8 (by kernel_rfl) (by kernel_rfl) hs3 ?_
    refine any_val (v := (.bool false)) (v' := (.bool false)) 9 (by kernel_rfl) (fun _ => by kernel_rfl) rfl hs3 ?_
    refine any_val (v := (.bool false)) (v' := (.bool false)) 10 (by kernel_rfl) (fun _ => by kernel_rfl) rfl hs3 ?_
    refine any_skip 11 (by kernel_rfl) (by kernel_rfl) hs3 ?_
    refine any_skip 12 (by kernel_rfl) (by kernel_rfl) hs3 ?_
    refine any_skip 13 (by kernel_rfl) (by kernel_rfl) hs3 ?_
    refine any_skip 14 (by kernel_rfl) (by kernel_rfl) hs3 ?_
    refine any_skip 15 (by kernel_rfl) (by kernel_rfl) hs3 ?_
    refine any_skip 16 (by kernel_rfl) (by kernel_rfl) hs3 ?_
    refine any_skip 17 (by kernel_rfl) (by kernel_rfl) hs3 ?_
    refine any_skip 18 (by kernel_rfl) (by kernel_rfl) hs3 ?_
    refine any_skip 19 (by kernel_rfl) (by kernel_rfl) hs3 ?_
    refine any_skip 20 (by kernel_rfl) (by kernel_rfl) hs3 ?_
    refine any_skip 21 (by kernel_rfl) (by kernel_rfl) hs3 ?_
    refine any_skip 22 (by kernel_rfl) (by kernel_rfl) hs3 ?_
    refine any_skip 23 (by kernel_rfl) (by kernel_rfl) hs3 ?_
    refine any_skip 24 (by kernel_rfl) (by kernel_rfl) hs3 ?_
    refine any_skip 25 (by kernel_rfl) (by kernel_rfl) hs3 ?_
    refine any_skip 26 (by kernel_rfl) (by kernel_rfl) hs3 ?_
    refine any_skip 27 (by kernel_rfl) (by kernel_rfl) hs3 ?_
    refine any_skip 28 (by kernel_rfl) (by kernel_rfl) hs3 ?_
    refine any_val (v := (.bool false)) (v' := (.bool false)) 29 (by kernel_rfl) (fun _ => by kernel_rfl) rfl hs3 ?_
    refine any_val (v := (.bool false)) (v' := (.bool false)) 30 (by kernel_rfl) (fun _ => by kernel_rfl) rfl hs3 ?_
    refine any_done (by kernel_rfl) ?_
    refine hK2 _ _ ?_
    clear hK2
    refine W.ret ?_
    obtain rfl := some_inj hm
    refine ret_of (.bool false) (by kernel_rfl) ⟨_, ⟨rfl, rfl⟩, hs3⟩

def rmset_J1 (img : List Int) (l : List (Int × Int)) (at_ : Int) (i_ : Int) (p20 : Int) : Option (Int × List (Int × Int)) :=
  need (-9223372036854775808 ≤ (i_.tdiv 64) ∧ (i_.tdiv 64) ≤ 9223372036854775807) <|
need (-9223372036854775808 ≤ (at_ + (i_.tdiv 64)) ∧ (at_ + (i_.tdiv 64)) ≤ 9223372036854775807) <|
(some (vput img l (at_ + (i_.tdiv 64)) p20)).bind fun r29 =>
some (r29.1, r29.2)

def rmset_M (img : List Int) (l : List (Int × Int)) (at_ : Int) (many : Int) (i_ : Int) (is_ : Bool) : Option (Int × List (Int × Int)) :=
  if i_ < 0 then (some (8, l)) else (if i_ ≥ many then (some (8, l)) else (need (-9223372036854775808 ≤ (i_.tdiv 64) ∧ (i_.tdiv 64) ≤ 9223372036854775807) <|
need (-9223372036854775808 ≤ (at_ + (i_.tdiv 64)) ∧ (at_ + (i_.tdiv 64)) ≤ 9223372036854775807) <|
need (0 ≤ (i_.tmod 64) ∧ (i_.tmod 64) ≤ 18446744073709551615) <|
need (0 ≤ i_.tmod 64) <|
(some (shlK .u64 1 (i_.tmod 64))).bind fun r18 =>
(rmget_M img l at_ many i_).bind fun r40 =>
if ((is_ = true) ↔ (r40 = true)) then (rmset_J1 img l at_ i_ (vget img l (at_ + (i_.tdiv 64)))) else ((some (bits .xor .u64 (vget img l (at_ + (i_.tdiv 64))) r18)).bind fun r47 =>
rmset_J1 img l at_ i_ r47)))

set_option maxRecDepth 20000 in
set_option linter.unusedVariables false in
theorem rmset_walk {img : List Int} {l : List (Int × Int)} {at_ : Int} {many : Int} {i_ : Int} {is_ : Bool} {mb vb : Nat} {r : Int × List (Int × Int)} (B : Nat) (w : World) (hm : rmset_M img l at_ many i_ is_ = some r) : Spec Tryd.prog 136 #[(.pointer (some ⟨mb, 0, none⟩)), (.int .i64 i_), (.bool is_)] B w [blk mb (.cells [(.pointer (some ⟨vb, 0, none⟩)), (.int .i64 at_), (.int .i64 many)].toArray 202 (0, 0)), refA (ptr vb) img l] (fun v H' => v = .int .i64 r.1 ∧ H' = [blk mb (.cells [(.pointer (some ⟨vb, 0, none⟩)), (.int .i64 at_), (.int .i64 many)].toArray 202 (0, 0)), refA (ptr vb) img r.2]) := by
  refine spec_W Tryd.func136 rfl fun l0 hs => ?_
  unfold rmset_M at hm
  refine W.seq fun K1 hK1 => ?_
  refine W.region ?_
  refine ops_run 1 (by kernel_rfl) ?_
  refine ops_done (by kernel_rfl) ?_
  refine hK1 _ _ ?_
  clear hK1
  refine W.seq fun K2 hK2 => ?_
  refine W.seq fun K3 hK3 => ?_
  refine W.region ?_
  refine ops_run 3 (by kernel_rfl) ?_
  rcases Bool.eq_false_or_eq_true (decide (i_ < 0)) with h4 | h4
  ·
    have h4p : i_ < 0 := of_decide_eq_true h4
    replace hm := ite_yes hm h4p
    refine ops_set 11 (v := .bool true) (eq_bool_of (by kernel_rfl) h4) ?_
    refine ops_set 10 (v := .bool true) (eq_bool_of (by kernel_rfl) h4) ?_
    refine ops_run 7 (by kernel_rfl) ?_
    refine ops_done (by kernel_rfl) ?_
    refine hK3 _ _ ?_
    clear hK3
    refine W.cond_true true (by kernel_rfl) rfl ?_
    refine W.seq fun K5 hK5 => ?_
    refine W.region ?_
    refine ops_run 1 (by kernel_rfl) ?_
    refine ops_done (by kernel_rfl) ?_
    refine hK5 _ _ ?_
    clear hK5
    refine W.ret (ret_seq ?_)
    obtain rfl := some_inj hm
    refine ret_of (.int .i64 8) (by kernel_rfl) ⟨_, ⟨rfl, rfl⟩, hs⟩
  ·
    have h4p : ¬ (i_ < 0) := of_decide_eq_false h4
    replace hm := ite_no hm h4p
    refine ops_set 11 (v := .bool false) (eq_bool_of (by kernel_rfl) h4) ?_
    refine ops_set 10 (v := .bool false) (eq_bool_of (by kernel_rfl) h4) ?_
    refine ops_run 4 (by kernel_rfl) ?_
    refine ops_R (runs_load (ad := ⟨mb, 2, none⟩) (v := (.int .i64 many)) (by kernel_rfl) (hs.cellAt 0 rfl rfl)) ?_
    refine ops_run 2 (by kernel_rfl) ?_
    refine ops_done (by kernel_rfl) ?_
    refine hK3 _ _ ?_
    clear hK3
    refine W.cond (decide (i_ ≥ many)) (by kernel_rfl) (fun h6 => ?_) (fun h6 => ?_)
    ·
      have h6p : i_ ≥ many := of_decide_eq_true h6
      replace hm := ite_yes hm h6p
      refine W.seq fun K7 hK7 => ?_
      refine W.region ?_
      refine ops_run 1 (by kernel_rfl) ?_
      refine ops_done (by kernel_rfl) ?_
      refine hK7 _ _ ?_
      clear hK7
      refine W.ret (ret_seq ?_)
      obtain rfl := some_inj hm
      refine ret_of (.int .i64 8) (by kernel_rfl) ⟨_, ⟨rfl, rfl⟩, hs⟩
    ·
      have h6p : ¬ (i_ ≥ many) := of_decide_eq_false h6
      replace hm := ite_no hm h6p
      refine W.skip ?_
      refine hK2 _ _ ?_
      clear hK2
      refine W.seq fun K8 hK8 => ?_
      have hs9 := hs.drew
      refine W.regionD [(0, 0), (1, 1), (2, 2), (4, 4), (0, 0), (16, 16), (32, 32), (64, 64), (0, 0), (256, 256), (640, 640), (1032, 1032), (4095, 2048)] (fun w_ => St B w l0 w_ [blk mb (.cells [(.pointer (some ⟨vb, 0, none⟩)), (.int .i64 at_), (.int .i64 many)].toArray 202 (0, 0)), refA (ptr vb) img l]) (by kernel_rfl) hs9 ?_
      refine any_val (v := (.pointer (some ⟨mb, 0, none⟩))) (v' := (.pointer (some ⟨mb, 0, none⟩))) 0 (by kernel_rfl) (fun _ => by kernel_rfl) rfl hs9 ?_
      refine any_val (v := (.pointer (some ⟨mb, 0, none⟩))) (v' := (.pointer (some ⟨mb, 0, none⟩))) 1 (by kernel_rfl) (fun _ => by kernel_rfl) rfl hs9 ?_
      refine any_val (v := (.pointer (some ⟨mb, 0, none⟩))) (v' := (.pointer (some ⟨mb, 0, none⟩))) 2 (by kernel_rfl) (fun _ => by kernel_rfl) rfl hs9 ?_
      refine any_R 3 (by kernel_rfl) (fun _ hS_ => runs_load (ad := ⟨mb, 0, none⟩) (v := (.pointer (some ⟨vb, 0, none⟩))) (by kernel_rfl) (hS_.cellAt 0 rfl rfl)) hs9 ?_
      refine any_val (v := (.pointer (some ⟨mb, 0, none⟩))) (v' := (.pointer (some ⟨mb, 0, none⟩))) 4 (by kernel_rfl) (fun _ => by kernel_rfl) rfl hs9 ?_
      refine any_val (v := (.pointer (some ⟨mb, 0, none⟩))) (v' := (.pointer (some ⟨mb, 0, none⟩))) 5 (by kernel_rfl) (fun _ => by kernel_rfl) rfl hs9 ?_
      refine any_val (v := (.pointer (some ⟨mb, 1, none⟩))) (v' := (.pointer (some ⟨mb, 1, none⟩))) 6 (by kernel_rfl) (fun _ => by kernel_rfl) rfl hs9 ?_
      refine any_R 7 (by kernel_rfl) (fun _ hS_ => runs_load (ad := ⟨mb, 1, none⟩) (v := (.int .i64 at_)) (by kernel_rfl) (hS_.cellAt 0 rfl rfl)) hs9 ?_
      refine any_val (v := (.int .i64 i_)) (v' := (.int .i64 i_)) 8 (by kernel_rfl) (fun _ => by kernel_rfl) rfl hs9 ?_
      obtain ⟨h10, hm⟩ := need_some hm
      refine any_R (v := .int .i64 (i_.tdiv 64)) 9 (by kernel_rfl) (fun _ hS_ => runs_quo (k := .i64) (a := i_) (b := 64) (by kernel_rfl) (by decide) (wrap_i64 h10.1 h10.2)) hs9 ?_
      obtain ⟨h11, hm⟩ := need_some hm
      refine any_val (v := .int .i64 (IntKind.i64.wrap (at_ + (i_.tdiv 64)))) (v' := .int .i64 (at_ + (i_.tdiv 64))) 10 (by kernel_rfl) (fun _ => by kernel_rfl) (congrArg (Value.int .i64) (wrap_i64 h11.1 h11.2)) hs9 ?_
      refine any_step 11 (by kernel_rfl) (by kernel_rfl) ?_
      refine ops_call0 hs9 (by kernel_rfl) (rget_spec (at_ := (at_ + (i_.tdiv 64))) (hv := (hs9.entAt 1 rfl refA_at)) B _) ?_
      rintro _ _ w12 ⟨rfl, rfl⟩ hs13
      have hs14 := St.ap0 hs13
      refine ops_done (by kernel_rfl) ⟨hs14, ?_⟩
      refine any_val (v := (.int .u64 (vget img l (at_ + (i_.tdiv 64))))) (v' := (.int .u64 (vget img l (at_ + (i_.tdiv 64))))) 12 (by kernel_rfl) (fun _ => by kernel_rfl) rfl hs14 ?_
      refine any_done (by kernel_rfl) ?_
      refine hK8 _ _ ?_
      clear hK8
      refine W.seq fun K15 hK15 => ?_
      refine W.region ?_
      refine ops_run 2 (by kernel_rfl) ?_
      obtain ⟨h16, hm⟩ := need_some hm
      refine ops_val (v := .int .u64 (IntKind.u64.wrap (i_.tmod 64))) (v' := .int .u64 (i_.tmod 64)) (by kernel_rfl) (congrArg (Value.int .u64) (wrap_u64 h16.1 (Int.lt_of_le_of_lt h16.2 (by decide)))) ?_
      obtain ⟨h17, hm⟩ := need_some hm
      refine ops_R (v := .int .u64 (shlK .u64 1 (i_.tmod 64))) (runs_shift (b := true) (k := .u64) (x := 1) (y := i_.tmod 64) (by kernel_rfl) h17) ?_
      refine ops_run 1 (by kernel_rfl) ?_
      obtain ⟨r18, h19, hm⟩ := bind_some hm
      replace h19 := some_inj h19
      refine ops_set 8 (v := .int .u64 r18) (Eq.trans (by kernel_rfl) (congrArg (Value.int .u64) h19)) ?_
      refine ops_done (by kernel_rfl) ?_
      refine hK15 _ _ ?_
      clear hK15
      refine W.seq_join (fun s_ w_ => ∃ (p20 : Int), (∃ us, s_ = slots 56 [(0, (.pointer (some ⟨mb, 0, none⟩))), (1, (.int .i64 i_)), (7, (.int .u64 p20))] us) ∧ St B w l0 w_ [refA (ptr vb) img l, blk mb (.cells [(.pointer (some ⟨vb, 0, none⟩)), (.int .i64 at_), (.int .i64 many)].toArray 202 (0, 0))] ∧ rmset_J1 img l at_ i_ p20 = some r) ?_ ?_
      ·
        rintro _ w21 ⟨p20, ⟨us, rfl⟩, hs22, hm⟩
        unfold rmset_J1 at hm
        refine W.seq fun K23 hK23 => ?_
        have hs24 := hs22.drew
        have hs25 := St.f1 hs24
        have hs26 := St.tk1 hs25
        refine W.regionD [(0, 0), (1, 1), (2, 2), (4, 4), (0, 0), (16, 16), (32, 32), (64, 64), (0, 0), (256, 256), (640, 640), (0, 0), (3080, 3080), (8191, 4096)] (fun w_ => St B w l0 w_ [blk mb (.cells [(.pointer (some ⟨vb, 0, none⟩)), (.int .i64 at_), (.int .i64 many)].toArray 202 (0, 0))]) (by kernel_rfl) hs26 ?_
        refine any_val (v := (.pointer (some ⟨mb, 0, none⟩))) (v' := (.pointer (some ⟨mb, 0, none⟩))) 0 (by kernel_rfl) (fun _ => by kernel_rfl) rfl hs26 ?_
        refine any_val (v := (.pointer (some ⟨mb, 0, none⟩))) (v' := (.pointer (some ⟨mb, 0, none⟩))) 1 (by kernel_rfl) (fun _ => by kernel_rfl) rfl hs26 ?_
        refine any_val (v := (.pointer (some ⟨mb, 0, none⟩))) (v' := (.pointer (some ⟨mb, 0, none⟩))) 2 (by kernel_rfl) (fun _ => by kernel_rfl) rfl hs26 ?_
        refine any_R 3 (by kernel_rfl) (fun _ hS_ => runs_load (ad := ⟨mb, 0, none⟩) (v := (.pointer (some ⟨vb, 0, none⟩))) (by kernel_rfl) (hS_.cellAt 0 rfl rfl)) hs26 ?_
        refine any_val (v := (.pointer (some ⟨mb, 0, none⟩))) (v' := (.pointer (some ⟨mb, 0, none⟩))) 4 (by kernel_rfl) (fun _ => by kernel_rfl) rfl hs26 ?_
        refine any_val (v := (.pointer (some ⟨mb, 0, none⟩))) (v' := (.pointer (some ⟨mb, 0, none⟩))) 5 (by kernel_rfl) (fun _ => by kernel_rfl) rfl hs26 ?_
        refine any_val (v := (.pointer (some ⟨mb, 1, none⟩))) (v' := (.pointer (some ⟨mb, 1, none⟩))) 6 (by kernel_rfl) (fun _ => by kernel_rfl) rfl hs26 ?_
        refine any_R 7 (by kernel_rfl) (fun _ hS_ => runs_load (ad := ⟨mb, 1, none⟩) (v := (.int .i64 at_)) (by kernel_rfl) (hS_.cellAt 0 rfl rfl)) hs26 ?_
        refine any_val (v := (.int .i64 i_)) (v' := (.int .i64 i_)) 8 (by kernel_rfl) (fun _ => by kernel_rfl) rfl hs26 ?_
        obtain ⟨h27, hm⟩ := need_some hm
        refine any_R (v := .int .i64 (i_.tdiv 64)) 9 (by kernel_rfl) (fun _ hS_ => runs_quo (k := .i64) (a := i_) (b := 64) (by kernel_rfl) (by decide) (wrap_i64 h27.1 h27.2)) hs26 ?_
        obtain ⟨h28, hm⟩ := need_some hm
        refine any_val (v := .int .i64 (IntKind.i64.wrap (at_ + (i_.tdiv 64)))) (v' := .int .i64 (at_ + (i_.tdiv 64))) 10 (by kernel_rfl) (fun _ => by kernel_rfl) (congrArg (Value.int .i64) (wrap_i64 h28.1 h28.2)) hs26 ?_
        refine any_val (v := (.int .u64 p20)) (v' := (.int .u64 p20)) 11 (by kernel_rfl) (fun _ => by kernel_rfl) rfl hs26 ?_
        refine any_step 12 (by kernel_rfl) (by kernel_rfl) ?_
        obtain ⟨r29, h30, hm⟩ := bind_some hm
        replace h30 := some_inj h30
        refine ops_call1 hs24 (by kernel_rfl) (rput_spec (p := (.pointer (some ⟨vb, 0, none⟩))) (img := img) (l := l) (at_ := (at_ + (i_.tdiv 64))) (x_ := p20) B _) ?_
        rintro _ _ w33 ⟨hv31, hH32⟩ hs34
        rw [h30] at hv31
        try rw [h30] at hH32
        subst hv31 hH32
        have hs35 := St.ap1 hs34
        have hs36 := St.f1 hs35
        have hs37 := St.tk1 hs36
        refine ops_done (by kernel_rfl) ⟨hs37, ?_⟩
        refine any_val (v := (.int .i64 r29.1)) (v' := (.int .i64 r29.1)) 13 (by kernel_rfl) (fun _ => by kernel_rfl) rfl hs37 ?_
        refine any_done (by kernel_rfl) ?_
        refine hK23 _ _ ?_
        clear hK23
        refine W.ret ?_
        obtain rfl := some_inj hm
        have hs38 := St.f1 hs35
        refine ret_of (.int .i64 r29.1) (by kernel_rfl) ⟨_, ⟨rfl, rfl⟩, hs38⟩
      ·
        refine W.seq fun K39 hK39 => ?_
        refine W.region ?_
        refine ops_run 3 (by kernel_rfl) ?_
        obtain ⟨r40, h41, hm⟩ := bind_some hm
        refine ops_call0 hs14 (by kernel_rfl) (rmget_walk (hmb := (hs14.heapAt 0 rfl)) (hv := (hs14.entAt 1 rfl refA_at)) (hm := h41) B _) ?_
        rintro _ _ w42 ⟨rfl, rfl⟩ hs43
        have hs44 := St.ap0 hs43
        refine ops_run 1 (by kernel_rfl) ?_
        refine ops_done (by kernel_rfl) ?_
        refine hK39 _ _ ?_
        clear hK39
        refine W.cond (!(is_ == r40)) (by kernel_rfl) (fun h45 => ?_) (fun h45 => ?_)
        rotate_left
        ·
          have h45p : ((is_ = true) ↔ (r40 = true)) := beq_yes Iff.rfl Iff.rfl (bnot_false h45)
          replace hm := ite_yes hm h45p
          refine W.skip ?_
          have hs46 := St.f1 hs44
          exact ⟨(vget img l (at_ + (i_.tdiv 64))), slots_intro _ (by kernel_rfl), hs46, hm⟩
        ·
          have h45p : ¬ ((is_ = true) ↔ (r40 = true)) := beq_no Iff.rfl Iff.rfl (bnot_true h45)
          replace hm := ite_no hm h45p
          refine W.region ?_
          refine ops_run 4 (by kernel_rfl) ?_
          obtain ⟨r47, h48, hm⟩ := bind_some hm
          replace h48 := some_inj h48
          refine ops_set 7 (v := .int .u64 r47) (Eq.trans (by kernel_rfl) (congrArg (Value.int .u64) h48)) ?_
          refine ops_done (by kernel_rfl) ?_
          have hs49 := St.f1 hs44
          exact ⟨r47, slots_intro _ (by kernel_rfl), hs49, hm⟩

def rmclear_B0 (img : List Int) (l : List (Int × Int)) (at_ : Int) (many : Int) (k5 : Int → Option (Int × Bool)) (p4 : Int) : Option (Int × Bool) :=
  if p4 < many then ((rmget_M img l at_ many p4).bind fun r14 =>
if r14 = true then (need (-9223372036854775808 ≤ (p4 + 1) ∧ (p4 + 1) ≤ 9223372036854775807) <|
k5 (p4 + 1)) else (some (p4, true))) else (some (0, false))

def rmclear_M (img : List Int) (l : List (Int × Int)) (at_ : Int) (many : Int) : Option (Int × Bool) :=
  iter (fun k_ s_ => rmclear_B0 img l at_ many k_ s_) FUEL 0

set_option maxRecDepth 20000 in
set_option linter.unusedVariables false in
theorem rmclear_walk {img : List Int} {l : List (Int × Int)} {at_ : Int} {many : Int} {mb vb : Nat} {r : Int × Bool} (B : Nat) (w : World) (hmb : w.heap[mb]? = some (.cells [(.pointer (some ⟨vb, 0, none⟩)), (.int .i64 at_), (.int .i64 many)].toArray 202 (0, 0))) (hv : RefAt (ptr vb) img l w) (hm : rmclear_M img l at_ many = some r) : Spec Tryd.prog 135 #[(.pointer (some ⟨mb, 0, none⟩))] B w [] (fun v H' => v = .tuple #[.int .i64 r.1, .bool r.2] ∧ H' = []) := by
  refine spec_Q Tryd.func135 rfl fun hs => ?_
  unfold rmclear_M at hm
  refine W.seq fun K1 hK1 => ?_
  refine W.region ?_
  refine ops_run 2 (by kernel_rfl) ?_
  refine ops_done (by kernel_rfl) ?_
  refine hK1 _ _ ?_
  clear hK1
  refine W.seq fun K2 hK2 => ?_
  refine W.seq fun K3 hK3 => ?_
  refine W.region ?_
  refine ops_run 1 (by kernel_rfl) ?_
  refine ops_done (by kernel_rfl) ?_
  refine hK3 _ _ ?_
  clear hK3
  refine W.block ?_
  refine W.loop_iter (G := Int) (σ := Int) (fun | p4 => p4) (fun | p4, s_, w_ => (∃ us, s_ = slots 18 [(0, (.pointer (some ⟨mb, 0, none⟩))), (4, (.int .i64 p4))] us) ∧ St B w [] w_ []) 0 ⟨slots_intro _ (by kernel_rfl), hs⟩ hm ?_
  rintro k5 ih6 p4 _ w7 ⟨⟨us, rfl⟩, hs8⟩ hm
  replace hm : rmclear_B0 img l at_ many k5 p4 = some r := hm
  unfold rmclear_B0 at hm
  refine W.seq fun K9 hK9 => ?_
  refine W.seq fun K10 hK10 => ?_
  refine W.region ?_
  refine ops_run 4 (by kernel_rfl) ?_
  refine ops_R (runs_load (ad := ⟨mb, 2, none⟩) (v := (.int .i64 many)) (by kernel_rfl) (cell_of_blk (hs8.old hmb) rfl)) ?_
  refine ops_run 1 (by kernel_rfl) ?_
  refine ops_done (by kernel_rfl) ?_
  refine hK10 _ _ ?_
  clear hK10
  refine W.cond (decide (p4 < many)) (by kernel_rfl) (fun h11 => ?_) (fun h11 => ?_)
  ·
    have h11p : p4 < many := of_decide_eq_true h11
    replace hm := ite_yes hm h11p
    refine W.skip ?_
    refine hK9 _ _ ?_
    clear hK9
    refine W.seq fun K12 hK12 => ?_
    refine W.block ?_
    refine W.seq fun K13 hK13 => ?_
    refine W.region ?_
    refine ops_run 2 (by kernel_rfl) ?_
    obtain ⟨r14, h15, hm⟩ := bind_some hm
    refine ops_call0 hs8 (by kernel_rfl) (rmget_walk (hmb := (hs8.old hmb)) (hv := (refAt_old hs8 hv)) (hm := h15) B _) ?_
    rintro _ _ w16 ⟨rfl, rfl⟩ hs17
    have hs18 := St.ap0 hs17
    refine ops_run 1 (by kernel_rfl) ?_
    refine ops_done (by kernel_rfl) ?_
    refine hK13 _ _ ?_
    clear hK13
    refine W.cond (!r14) (by kernel_rfl) (fun h19 => ?_) (fun h19 => ?_)
    rotate_left
    ·
      have h19p : r14 = true := (bnot_false h19)
      replace hm := ite_yes hm h19p
      refine W.skip ?_
      refine normal_block ?_
      refine hK12 _ _ ?_
      clear hK12
      refine W.region ?_
      refine ops_run 1 (by kernel_rfl) ?_
      obtain ⟨h20, hm⟩ := need_some hm
      refine ops_val (v := .int .i64 (IntKind.i64.wrap (p4 + 1))) (v' := .int .i64 (p4 + 1)) (by kernel_rfl) (congrArg (Value.int .i64) (wrap_i64 h20.1 h20.2)) ?_
      refine ops_run 1 (by kernel_rfl) ?_
      refine ops_done (by kernel_rfl) ?_
      refine loopAt_next ?_
      exact ih6 (p4 + 1) _ _ ⟨slots_intro _ (by kernel_rfl), hs18⟩ hm
    ·
      have h19p : ¬ (r14 = true) := ne_true_of_eq_false (bnot_true h19)
      replace hm := ite_no hm h19p
      refine W.seq fun K21 hK21 => ?_
      refine W.region ?_
      refine ops_run 3 (by kernel_rfl) ?_
      refine ops_done (by kernel_rfl) ?_
      refine hK21 _ _ ?_
      clear hK21
      refine W.ret (ret_block (ret_seq (ret_seq (ret_block (ret_seq ?_)))))
      obtain rfl := some_inj hm
      refine ret_of (.tuple #[(.int .i64 p4), (.bool true)]) (by kernel_rfl) ⟨_, ⟨rfl, rfl⟩, hs18⟩
  ·
    have h11p : ¬ (p4 < many) := of_decide_eq_false h11
    replace hm := ite_no hm h11p
    refine W.exit (exit_seq (exit_seq (exit_here ?_)))
    refine hK2 _ _ ?_
    clear hK2
    refine W.seq fun K22 hK22 => ?_
    refine W.region ?_
    refine ops_run 2 (by kernel_rfl) ?_
    refine ops_done (by kernel_rfl) ?_
    refine hK22 _ _ ?_
    clear hK22
    refine W.ret ?_
    obtain rfl := some_inj hm
    refine ret_of (.tuple #[(.int .i64 0), (.bool false)]) (by kernel_rfl) ⟨_, ⟨rfl, rfl⟩, hs8⟩

def rmcount_B0 (img : List Int) (l : List (Int × Int)) (at_ : Int) (many : Int) (k7 : (Int × Int) → Option (Int)) (p5 : Int) (p6 : Int) : Option (Int) :=
  if p6 < many then ((rmget_M img l at_ many p6).bind fun r16 =>
if r16 = true then (need (-9223372036854775808 ≤ (p5 + 1) ∧ (p5 + 1) ≤ 9223372036854775807) <|
need (-9223372036854775808 ≤ (p6 + 1) ∧ (p6 + 1) ≤ 9223372036854775807) <|
k7 ((p5 + 1), (p6 + 1))) else (need (-9223372036854775808 ≤ (p6 + 1) ∧ (p6 + 1) ≤ 9223372036854775807) <|
k7 (p5, (p6 + 1)))) else (some p5)

def rmcount_M (img : List Int) (l : List (Int × Int)) (at_ : Int) (many : Int) : Option (Int) :=
  iter (fun k_ s_ => rmcount_B0 img l at_ many k_ s_.1 s_.2) FUEL (0, 0)

set_option maxRecDepth 20000 in
set_option linter.unusedVariables false in
theorem rmcount_walk {img : List Int} {l : List (Int × Int)} {at_ : Int} {many : Int} {mb vb : Nat} {r : Int} (B : Nat) (w : World) (hmb : w.heap[mb]? = some (.cells [(.pointer (some ⟨vb, 0, none⟩)), (.int .i64 at_), (.int .i64 many)].toArray 202 (0, 0))) (hv : RefAt (ptr vb) img l w) (hm : rmcount_M img l at_ many = some r) : Spec Tryd.prog 139 #[(.pointer (some ⟨mb, 0, none⟩))] B w [] (fun v H' => v = .int .i64 r ∧ H' = []) := by
  refine spec_Q Tryd.func139 rfl fun hs => ?_
  unfold rmcount_M at hm
  refine W.seq fun K1 hK1 => ?_
  refine W.region ?_
  refine ops_run 1 (by kernel_rfl) ?_
  refine ops_done (by kernel_rfl) ?_
  refine hK1 _ _ ?_
  clear hK1
  refine W.seq fun K2 hK2 => ?_
  refine W.region ?_
  refine ops_run 1 (by kernel_rfl) ?_
  refine ops_done (by kernel_rfl) ?_
  refine hK2 _ _ ?_
  clear hK2
  refine W.seq fun K3 hK3 => ?_
  refine W.seq fun K4 hK4 => ?_
  refine W.region ?_
  refine ops_run 1 (by kernel_rfl) ?_
  refine ops_done (by kernel_rfl) ?_
  refine hK4 _ _ ?_
  clear hK4
  refine W.block ?_
  refine W.loop_iter (G := Int × Int) (σ := Int × Int) (fun | (p5, p6) => (p5, p6)) (fun | (p5, p6), s_, w_ => (∃ us, s_ = slots 19 [(0, (.pointer (some ⟨mb, 0, none⟩))), (3, (.int .i64 p5)), (4, (.int .i64 p6))] us) ∧ St B w [] w_ []) (0, 0) ⟨slots_intro _ (by kernel_rfl), hs⟩ hm ?_
  rintro k7 ih8 ⟨p5, p6⟩ _ w9 ⟨⟨us, rfl⟩, hs10⟩ hm
  replace hm : rmcount_B0 img l at_ many k7 p5 p6 = some r := hm
  unfold rmcount_B0 at hm
  refine W.seq fun K11 hK11 => ?_
  refine W.seq fun K12 hK12 => ?_
  refine W.region ?_
  refine ops_run 4 (by kernel_rfl) ?_
  refine ops_R (runs_load (ad := ⟨mb, 2, none⟩) (v := (.int .i64 many)) (by kernel_rfl) (cell_of_blk (hs10.old hmb) rfl)) ?_
  refine ops_run 1 (by kernel_rfl) ?_
  refine ops_done (by kernel_rfl) ?_
  refine hK12 _ _ ?_
  clear hK12
  refine W.cond (decide (p6 < many)) (by kernel_rfl) (fun h13 => ?_) (fun h13 => ?_)
  ·
    have h13p : p6 < many := of_decide_eq_true h13
    replace hm := ite_yes hm h13p
    refine W.skip ?_
    refine hK11 _ _ ?_
    clear hK11
    refine W.seq fun K14 hK14 => ?_
    refine W.block ?_
    refine W.seq fun K15 hK15 => ?_
    refine W.region ?_
    refine ops_run 2 (by kernel_rfl) ?_
    obtain ⟨r16, h17, hm⟩ := bind_some hm
    refine ops_call0 hs10 (by kernel_rfl) (rmget_walk (hmb := (hs10.old hmb)) (hv := (refAt_old hs10 hv)) (hm := h17) B _) ?_
    rintro _ _ w18 ⟨rfl, rfl⟩ hs19
    have hs20 := St.ap0 hs19
    refine ops_done (by kernel_rfl) ?_
    refine hK15 _ _ ?_
    clear hK15
    refine W.cond r16 (by kernel_rfl) (fun h21 => ?_) (fun h21 => ?_)
    ·
      have h21p : r16 = true := h21
      replace hm := ite_yes hm h21p
      refine W.region ?_
      refine ops_run 1 (by kernel_rfl) ?_
      obtain ⟨h22, hm⟩ := need_some hm
      refine ops_val (v := .int .i64 (IntKind.i64.wrap (p5 + 1))) (v' := .int .i64 (p5 + 1)) (by kernel_rfl) (congrArg (Value.int .i64) (wrap_i64 h22.1 h22.2)) ?_
      refine ops_run 1 (by kernel_rfl) ?_
      refine ops_done (by kernel_rfl) ?_
      refine normal_block ?_
      refine hK14 _ _ ?_
      clear hK14
      refine W.region ?_
      refine ops_run 1 (by kernel_rfl) ?_
      obtain ⟨h23, hm⟩ := need_some hm
      refine ops_val (v := .int .i64 (IntKind.i64.wrap (p6 + 1))) (v' := .int .i64 (p6 + 1)) (by kernel_rfl) (congrArg (Value.int .i64) (wrap_i64 h23.1 h23.2)) ?_
      refine ops_run 1 (by kernel_rfl) ?_
      refine ops_done (by kernel_rfl) ?_
      refine loopAt_next ?_
      exact ih8 ((p5 + 1), (p6 + 1)) _ _ ⟨slots_intro _ (by kernel_rfl), hs20⟩ hm
    ·
      have h21p : ¬ (r16 = true) := ne_true_of_eq_false h21
      replace hm := ite_no hm h21p
      refine W.skip ?_
      refine normal_block ?_
      refine hK14 _ _ ?_
      clear hK14
      refine W.region ?_
      refine ops_run 1 (by kernel_rfl) ?_
      obtain ⟨h24, hm⟩ := need_some hm
      refine ops_val (v := .int .i64 (IntKind.i64.wrap (p6 + 1))) (v' := .int .i64 (p6 + 1)) (by kernel_rfl) (congrArg (Value.int .i64) (wrap_i64 h24.1 h24.2)) ?_
      refine ops_run 1 (by kernel_rfl) ?_
      refine ops_done (by kernel_rfl) ?_
      refine loopAt_next ?_
      exact ih8 (p5, (p6 + 1)) _ _ ⟨slots_intro _ (by kernel_rfl), hs20⟩ hm
  ·
    have h13p : ¬ (p6 < many) := of_decide_eq_false h13
    replace hm := ite_no hm h13p
    refine W.exit (exit_seq (exit_seq (exit_here ?_)))
    refine hK3 _ _ ?_
    clear hK3
    refine W.seq fun K25 hK25 => ?_
    refine W.region ?_
    refine ops_run 2 (by kernel_rfl) ?_
    refine ops_done (by kernel_rfl) ?_
    refine hK25 _ _ ?_
    clear hK25
    refine W.ret ?_
    obtain rfl := some_inj hm
    refine ret_of (.int .i64 p5) (by kernel_rfl) ⟨_, ⟨rfl, rfl⟩, hs10⟩

end Go.Proofs.YthimamnblklkbaaDoor

/- What the code computes, by a program. -/
namespace Go.Proofs.YthimamnblklkbaaDoor
open Go Go.RowKit
set_option linter.unusedSimpArgs false
set_option linter.unusedVariables false

def rgive_M (img : List Int) (l : List (Int × Int)) (at_ : Int) (many : Int) (n_ : Int) : Option (Int × List (Int × Int)) :=
  if n_ < 1 then (some (1, l)) else (if n_ ≥ many then (some (1, l)) else ((rmget_M img l at_ many n_).bind fun r10 =>
if r10 = true then ((rmset_M img l at_ many n_ false).bind fun r17 =>
some (r17.1, r17.2)) else (some (3, l))))

set_option maxRecDepth 20000 in
set_option linter.unusedVariables false in
theorem rgive_walk {img : List Int} {l : List (Int × Int)} {at_ : Int} {many : Int} {n_ : Int} {mb vb : Nat} {r : Int × List (Int × Int)} (B : Nat) (w : World) (hm : rgive_M img l at_ many n_ = some r) : Spec Tryd.prog 137 #[(.pointer (some ⟨mb, 0, none⟩)), (.int .i64 n_)] B w [blk mb (.cells [(.pointer (some ⟨vb, 0, none⟩)), (.int .i64 at_), (.int .i64 many)].toArray 202 (0, 0)), refA (ptr vb) img l] (fun v H' => v = .int .i64 r.1 ∧ H' = [blk mb (.cells [(.pointer (some ⟨vb, 0, none⟩)), (.int .i64 at_), (.int .i64 many)].toArray 202 (0, 0)), refA (ptr vb) img r.2]) := by
  refine spec_W Tryd.func137 rfl fun l0 hs => ?_
  unfold rgive_M at hm
  refine W.seq fun K1 hK1 => ?_
  refine W.region ?_
  refine ops_run 1 (by kernel_rfl) ?_
  refine ops_done (by kernel_rfl) ?_
  refine hK1 _ _ ?_
  clear hK1
  refine W.seq fun K2 hK2 => ?_
  refine W.seq fun K3 hK3 => ?_
  refine W.region ?_
  refine ops_run 3 (by kernel_rfl) ?_
  rcases Bool.eq_false_or_eq_true (decide (n_ < 1)) with h4 | h4
  ·
    have h4p : n_ < 1 := of_decide_eq_true h4
    replace hm := ite_yes hm h4p
    refine ops_set 7 (v := .bool true) (eq_bool_of (by kernel_rfl) h4) ?_
    refine ops_set 6 (v := .bool true) (eq_bool_of (by kernel_rfl) h4) ?_
    refine ops_run 7 (by kernel_rfl) ?_
    refine ops_done (by kernel_rfl) ?_
    refine hK3 _ _ ?_
    clear hK3
    refine W.cond_true true (by kernel_rfl) rfl ?_
    refine W.seq fun K5 hK5 => ?_
    refine W.region ?_
    refine ops_run 1 (by kernel_rfl) ?_
    refine ops_done (by kernel_rfl) ?_
    refine hK5 _ _ ?_
    clear hK5
    refine W.ret (ret_seq ?_)
    obtain rfl := some_inj hm
    refine ret_of (.int .i64 1) (by kernel_rfl) ⟨_, ⟨rfl, rfl⟩, hs⟩
  ·
    have h4p : ¬ (n_ < 1) := of_decide_eq_false h4
    replace hm := ite_no hm h4p
    refine ops_set 7 (v := .bool false) (eq_bool_of (by kernel_rfl) h4) ?_
    refine ops_set 6 (v := .bool false) (eq_bool_of (by kernel_rfl) h4) ?_
    refine ops_run 4 (by kernel_rfl) ?_
    refine ops_R (runs_load (ad := ⟨mb, 2, none⟩) (v := (.int .i64 many)) (by kernel_rfl) (hs.cellAt 0 rfl rfl)) ?_
    refine ops_run 2 (by kernel_rfl) ?_
    refine ops_done (by kernel_rfl) ?_
    refine hK3 _ _ ?_
    clear hK3
    refine W.cond (decide (n_ ≥ many)) (by kernel_rfl) (fun h6 => ?_) (fun h6 => ?_)
    ·
      have h6p : n_ ≥ many := of_decide_eq_true h6
      replace hm := ite_yes hm h6p
      refine W.seq fun K7 hK7 => ?_
      refine W.region ?_
      refine ops_run 1 (by kernel_rfl) ?_
      refine ops_done (by kernel_rfl) ?_
      refine hK7 _ _ ?_
      clear hK7
      refine W.ret (ret_seq ?_)
      obtain rfl := some_inj hm
      refine ret_of (.int .i64 1) (by kernel_rfl) ⟨_, ⟨rfl, rfl⟩, hs⟩
    ·
      have h6p : ¬ (n_ ≥ many) := of_decide_eq_false h6
      replace hm := ite_no hm h6p
      refine W.skip ?_
      refine hK2 _ _ ?_
      clear hK2
      refine W.seq fun K8 hK8 => ?_
      refine W.seq fun K9 hK9 => ?_
      refine W.region ?_
      refine ops_run 2 (by kernel_rfl) ?_
      obtain ⟨r10, h11, hm⟩ := bind_some hm
      refine ops_call0 hs (by kernel_rfl) (rmget_walk (hmb := (hs.heapAt 0 rfl)) (hv := (hs.entAt 1 rfl refA_at)) (hm := h11) B _) ?_
      rintro _ _ w12 ⟨rfl, rfl⟩ hs13
      have hs14 := St.ap0 hs13
      refine ops_run 1 (by kernel_rfl) ?_
      refine ops_done (by kernel_rfl) ?_
      refine hK9 _ _ ?_
      clear hK9
      refine W.cond (!r10) (by kernel_rfl) (fun h15 => ?_) (fun h15 => ?_)
      rotate_left
      ·
        have h15p : r10 = true := (bnot_false h15)
        replace hm := ite_yes hm h15p
        refine W.skip ?_
        refine hK8 _ _ ?_
        clear hK8
        refine W.seq fun K16 hK16 => ?_
        refine W.region ?_
        refine ops_run 2 (by kernel_rfl) ?_
        obtain ⟨r17, h18, hm⟩ := bind_some hm
        have hs19 := St.f1 hs14
        have hs20 := St.f1 hs19
        refine ops_call2 hs20 (by kernel_rfl) (rmset_walk (mb := mb) (vb := vb) (many := many) (at_ := at_) (hm := h18) B _) ?_
        rintro _ _ w21 ⟨rfl, rfl⟩ hs22
        have hs23 := St.ap2 hs22
        refine ops_run 1 (by kernel_rfl) ?_
        refine ops_done (by kernel_rfl) ?_
        refine hK16 _ _ ?_
        clear hK16
        refine W.ret ?_
        obtain rfl := some_inj hm
        refine ret_of (.int .i64 r17.1) (by kernel_rfl) ⟨_, ⟨rfl, rfl⟩, hs23⟩
      ·
        have h15p : ¬ (r10 = true) := ne_true_of_eq_false (bnot_true h15)
        replace hm := ite_no hm h15p
        refine W.seq fun K24 hK24 => ?_
        refine W.region ?_
        refine ops_run 1 (by kernel_rfl) ?_
        refine ops_done (by kernel_rfl) ?_
        refine hK24 _ _ ?_
        clear hK24
        refine W.ret (ret_seq ?_)
        obtain rfl := some_inj hm
        refine ret_of (.int .i64 3) (by kernel_rfl) ⟨_, ⟨rfl, rfl⟩, hs14⟩

def rtakei_M (img : List Int) (l : List (Int × Int)) (gi : Int) (ia : Int) : Option (Int × Int × List (Int × Int)) :=
  (rmclear_M img l ia gi).bind fun r3 =>
if r3.2 = true then ((rmset_M img l ia gi r3.1 true).bind fun r12 =>
if r12.1 = 0 then (some (r3.1, 0, r12.2)) else (some (0, r12.1, r12.2))) else (some (0, 7, l))

set_option maxRecDepth 20000 in
set_option linter.unusedVariables false in
theorem rtakei_walk {img : List Int} {l : List (Int × Int)} {gw : Int} {gi : Int} {gb : Int} {ia : Int} {ba : Int} {ab ib bb vb : Nat} {r : Int × Int × List (Int × Int)} (B : Nat) (w : World) (hm : rtakei_M img l gi ia = some r) : Spec Tryd.prog 82 #[(.pointer (some ⟨ab, 0, none⟩))] B w [blk ab (.cells [(.pointer (some ⟨vb, 0, none⟩)), (.int .i64 gw), (.int .i64 gi), (.int .i64 gb), (.pointer (some ⟨ib, 0, none⟩)), (.pointer (some ⟨bb, 0, none⟩))].toArray 204 (0, 0)), blk ib (.cells [(.pointer (some ⟨vb, 0, none⟩)), (.int .i64 ia), (.int .i64 gi)].toArray 202 (0, 0)), blk bb (.cells [(.pointer (some ⟨vb, 0, none⟩)), (.int .i64 ba), (.int .i64 gb)].toArray 202 (0, 0)), refA (ptr vb) img l] (fun v H' => v = .tuple #[.int .i64 r.1, .int .i64 r.2.1] ∧ H' = [blk ab (.cells [(.pointer (some ⟨vb, 0, none⟩)), (.int .i64 gw), (.int .i64 gi), (.int .i64 gb), (.pointer (some ⟨ib, 0, none⟩)), (.pointer (some ⟨bb, 0, none⟩))].toArray 204 (0, 0)), blk ib (.cells [(.pointer (some ⟨vb, 0, none⟩)), (.int .i64 ia), (.int .i64 gi)].toArray 202 (0, 0)), blk bb (.cells [(.pointer (some ⟨vb, 0, none⟩)), (.int .i64 ba), (.int .i64 gb)].toArray 202 (0, 0)), refA (ptr vb) img r.2.2]) := by
  refine spec_W Tryd.func82 rfl fun l0 hs => ?_
  unfold rtakei_M at hm
  refine W.seq fun K1 hK1 => ?_
  refine W.region ?_
  refine ops_run 2 (by kernel_rfl) ?_
  refine ops_done (by kernel_rfl) ?_
  refine hK1 _ _ ?_
  clear hK1
  refine W.seq fun K2 hK2 => ?_
  refine W.region ?_
  refine ops_run 3 (by kernel_rfl) ?_
  refine ops_R (runs_load (ad := ⟨ab, 4, none⟩) (v := (.pointer (some ⟨ib, 0, none⟩))) (by kernel_rfl) (hs.cellAt 0 rfl rfl)) ?_
  obtain ⟨r3, h4, hm⟩ := bind_some hm
  refine ops_call0 hs (by kernel_rfl) (rmclear_walk (hmb := (hs.heapAt 1 rfl)) (hv := (hs.entAt 3 rfl refA_at)) (hm := h4) B _) ?_
  rintro _ _ w5 ⟨rfl, rfl⟩ hs6
  have hs7 := St.ap0 hs6
  refine ops_run 5 (by kernel_rfl) ?_
  refine ops_done (by kernel_rfl) ?_
  refine hK2 _ _ ?_
  clear hK2
  refine W.seq fun K8 hK8 => ?_
  refine W.seq fun K9 hK9 => ?_
  refine W.region ?_
  refine ops_run 2 (by kernel_rfl) ?_
  refine ops_done (by kernel_rfl) ?_
  refine hK9 _ _ ?_
  clear hK9
  refine W.cond (!r3.2) (by kernel_rfl) (fun h10 => ?_) (fun h10 => ?_)
  rotate_left
  ·
    have h10p : r3.2 = true := (bnot_false h10)
    replace hm := ite_yes hm h10p
    refine W.skip ?_
    refine hK8 _ _ ?_
    clear hK8
    refine W.seq fun K11 hK11 => ?_
    refine W.region ?_
    refine ops_run 3 (by kernel_rfl) ?_
    refine ops_R (runs_load (ad := ⟨ab, 4, none⟩) (v := (.pointer (some ⟨ib, 0, none⟩))) (by kernel_rfl) (hs7.cellAt 0 rfl rfl)) ?_
    refine ops_run 1 (by kernel_rfl) ?_
    obtain ⟨r12, h13, hm⟩ := bind_some hm
    have hs14 := St.f3 hs7
    have hs15 := St.f2 hs14
    refine ops_call2 hs15 (by kernel_rfl) (rmset_walk (mb := ib) (vb := vb) (many := gi) (at_ := ia) (hm := h13) B _) ?_
    rintro _ _ w16 ⟨rfl, rfl⟩ hs17
    have hs18 := St.ap2 hs17
    refine ops_run 1 (by kernel_rfl) ?_
    refine ops_done (by kernel_rfl) ?_
    refine hK11 _ _ ?_
    clear hK11
    refine W.seq fun K19 hK19 => ?_
    refine W.seq fun K20 hK20 => ?_
    refine W.region ?_
    refine ops_run 2 (by kernel_rfl) ?_
    refine ops_done (by kernel_rfl) ?_
    refine hK20 _ _ ?_
    clear hK20
    refine W.cond (!decide (r12.1 = 0)) (by kernel_rfl) (fun h21 => ?_) (fun h21 => ?_)
    rotate_left
    ·
      have h21p : r12.1 = 0 := of_decide_eq_true (bnot_false h21)
      replace hm := ite_yes hm h21p
      refine W.skip ?_
      refine hK19 _ _ ?_
      clear hK19
      refine W.seq fun K22 hK22 => ?_
      refine W.region ?_
      refine ops_run 3 (by kernel_rfl) ?_
      refine ops_done (by kernel_rfl) ?_
      refine hK22 _ _ ?_
      clear hK22
      refine W.ret ?_
      obtain rfl := some_inj hm
      have hs23 := St.f1 hs18
      have hs24 := St.f3 hs23
      have hs25 := St.f2 hs24
      have hs26 := St.f3 hs25
      refine ret_of (.tuple #[(.int .i64 r3.1), (.int .i64 0)]) (by kernel_rfl) ⟨_, ⟨rfl, rfl⟩, hs26⟩
    ·
      have h21p : ¬ (r12.1 = 0) := of_decide_eq_false (bnot_true h21)
      replace hm := ite_no hm h21p
      refine W.seq fun K27 hK27 => ?_
      refine W.region ?_
      refine ops_run 3 (by kernel_rfl) ?_
      refine ops_done (by kernel_rfl) ?_
      refine hK27 _ _ ?_
      clear hK27
      refine W.ret (ret_seq ?_)
      obtain rfl := some_inj hm
      have hs28 := St.f1 hs18
      have hs29 := St.f3 hs28
      have hs30 := St.f2 hs29
      have hs31 := St.f3 hs30
      refine ret_of (.tuple #[(.int .i64 0), (.int .i64 r12.1)]) (by kernel_rfl) ⟨_, ⟨rfl, rfl⟩, hs31⟩
  ·
    have h10p : ¬ (r3.2 = true) := ne_true_of_eq_false (bnot_true h10)
    replace hm := ite_no hm h10p
    refine W.seq fun K32 hK32 => ?_
    refine W.region ?_
    refine ops_run 2 (by kernel_rfl) ?_
    refine ops_done (by kernel_rfl) ?_
    refine hK32 _ _ ?_
    clear hK32
    refine W.ret (ret_seq ?_)
    obtain rfl := some_inj hm
    refine ret_of (.tuple #[(.int .i64 0), (.int .i64 7)]) (by kernel_rfl) ⟨_, ⟨rfl, rfl⟩, hs7⟩

def rtakeb_J1 (r3 : Int × Bool) (l19 : List (Int × Int)) (p20 : Int) : Option (Int × Int × List (Int × Int)) :=
  if p20 = 0 then (some (r3.1, 0, l19)) else (some (0, p20, l19))

def rtakeb_B0 (img : List Int) (gw : Int) (gi : Int) (gb : Int) (r3 : Int × Bool) (k38 : ((List (Int × Int)) × Int × Int) → Option (Int × Int × List (Int × Int))) (l35 : List (Int × Int)) (p36 : Int) (p37 : Int) : Option (Int × Int × List (Int × Int)) :=
  if p37 < 8 then (if p36 = 0 then (need (-9223372036854775808 ≤ ((placeOf 9 gw gi gb r3.1) + p37) ∧ ((placeOf 9 gw gi gb r3.1) + p37) ≤ 9223372036854775807) <|
(some (vput img l35 ((placeOf 9 gw gi gb r3.1) + p37) 0)).bind fun r64 =>
need (-9223372036854775808 ≤ (p37 + 1) ∧ (p37 + 1) ≤ 9223372036854775807) <|
k38 (r64.2, r64.1, (p37 + 1))) else (rtakeb_J1 r3 l35 p36)) else (rtakeb_J1 r3 l35 p36)

def rtakeb_M (img : List Int) (l : List (Int × Int)) (gw : Int) (gi : Int) (gb : Int) (ba : Int) : Option (Int × Int × List (Int × Int)) :=
  (rmclear_M img l ba gb).bind fun r3 =>
if r3.2 = true then ((rmset_M img l ba gb r3.1 true).bind fun r12 =>
iter (fun k_ s_ => rtakeb_B0 img gw gi gb r3 k_ s_.1 s_.2.1 s_.2.2) FUEL (r12.2, r12.1, 0)) else (some (0, 7, l))

set_option maxRecDepth 20000 in
set_option linter.unusedVariables false in
theorem rtakeb_walk {img : List Int} {l : List (Int × Int)} {gw : Int} {gi : Int} {gb : Int} {ia : Int} {ba : Int} {ab ib bb vb : Nat} {r : Int × Int × List (Int × Int)} (B : Nat) (w : World) (hm : rtakeb_M img l gw gi gb ba = some r) : Spec Tryd.prog 83 #[(.pointer (some ⟨ab, 0, none⟩))] B w [blk ab (.cells [(.pointer (some ⟨vb, 0, none⟩)), (.int .i64 gw), (.int .i64 gi), (.int .i64 gb), (.pointer (some ⟨ib, 0, none⟩)), (.pointer (some ⟨bb, 0, none⟩))].toArray 204 (0, 0)), blk ib (.cells [(.pointer (some ⟨vb, 0, none⟩)), (.int .i64 ia), (.int .i64 gi)].toArray 202 (0, 0)), blk bb (.cells [(.pointer (some ⟨vb, 0, none⟩)), (.int .i64 ba), (.int .i64 gb)].toArray 202 (0, 0)), refA (ptr vb) img l] (fun v H' => v = .tuple #[.int .i64 r.1, .int .i64 r.2.1] ∧ H' = [blk ab (.cells [(.pointer (some ⟨vb, 0, none⟩)), (.int .i64 gw), (.int .i64 gi), (.int .i64 gb), (.pointer (some ⟨ib, 0, none⟩)), (.pointer (some ⟨bb, 0, none⟩))].toArray 204 (0, 0)), blk ib (.cells [(.pointer (some ⟨vb, 0, none⟩)), (.int .i64 ia), (.int .i64 gi)].toArray 202 (0, 0)), blk bb (.cells [(.pointer (some ⟨vb, 0, none⟩)), (.int .i64 ba), (.int .i64 gb)].toArray 202 (0, 0)), refA (ptr vb) img r.2.2]) := by
  refine spec_W Tryd.func83 rfl fun l0 hs => ?_
  unfold rtakeb_M at hm
  refine W.seq fun K1 hK1 => ?_
  refine W.region ?_
  refine ops_run 2 (by kernel_rfl) ?_
  refine ops_done (by kernel_rfl) ?_
  refine hK1 _ _ ?_
  clear hK1
  refine W.seq fun K2 hK2 => ?_
  refine W.region ?_
  refine ops_run 3 (by kernel_rfl) ?_
  refine ops_R (runs_load (ad := ⟨ab, 5, none⟩) (v := (.pointer (some ⟨bb, 0, none⟩))) (by kernel_rfl) (hs.cellAt 0 rfl rfl)) ?_
  obtain ⟨r3, h4, hm⟩ := bind_some hm
  refine ops_call0 hs (by kernel_rfl) (rmclear_walk (hmb := (hs.heapAt 2 rfl)) (hv := (hs.entAt 3 rfl refA_at)) (hm := h4) B _) ?_
  rintro _ _ w5 ⟨rfl, rfl⟩ hs6
  have hs7 := St.ap0 hs6
  refine ops_run 5 (by kernel_rfl) ?_
  refine ops_done (by kernel_rfl) ?_
  refine hK2 _ _ ?_
  clear hK2
  refine W.seq fun K8 hK8 => ?_
  refine W.seq fun K9 hK9 => ?_
  refine W.region ?_
  refine ops_run 2 (by kernel_rfl) ?_
  refine ops_done (by kernel_rfl) ?_
  refine hK9 _ _ ?_
  clear hK9
  refine W.cond (!r3.2) (by kernel_rfl) (fun h10 => ?_) (fun h10 => ?_)
  rotate_left
  ·
    have h10p : r3.2 = true := (bnot_false h10)
    replace hm := ite_yes hm h10p
    refine W.skip ?_
    refine hK8 _ _ ?_
    clear hK8
    refine W.seq fun K11 hK11 => ?_
    refine W.region ?_
    refine ops_run 3 (by kernel_rfl) ?_
    refine ops_R (runs_load (ad := ⟨ab, 5, none⟩) (v := (.pointer (some ⟨bb, 0, none⟩))) (by kernel_rfl) (hs7.cellAt 0 rfl rfl)) ?_
    refine ops_run 1 (by kernel_rfl) ?_
    obtain ⟨r12, h13, hm⟩ := bind_some hm
    have hs14 := St.f3 hs7
    have hs15 := St.f3 hs14
    refine ops_call2 hs15 (by kernel_rfl) (rmset_walk (mb := bb) (vb := vb) (many := gb) (at_ := ba) (hm := h13) B _) ?_
    rintro _ _ w16 ⟨rfl, rfl⟩ hs17
    have hs18 := St.ap2 hs17
    refine ops_run 1 (by kernel_rfl) ?_
    refine ops_done (by kernel_rfl) ?_
    refine hK11 _ _ ?_
    clear hK11
    refine W.seq_join (fun s_ w_ => ∃ (l19 : List (Int × Int)) (p20 : Int), (∃ us, s_ = slots 49 [(4, (.int .i64 r3.1)), (6, (.int .i64 p20))] us) ∧ St B w l0 w_ [refA (ptr vb) img l19, blk bb (.cells [(.pointer (some ⟨vb, 0, none⟩)), (.int .i64 ba), (.int .i64 gb)].toArray 202 (0, 0)), blk ib (.cells [(.pointer (some ⟨vb, 0, none⟩)), (.int .i64 ia), (.int .i64 gi)].toArray 202 (0, 0)), blk ab (.cells [(.pointer (some ⟨vb, 0, none⟩)), (.int .i64 gw), (.int .i64 gi), (.int .i64 gb), (.pointer (some ⟨ib, 0, none⟩)), (.pointer (some ⟨bb, 0, none⟩))].toArray 204 (0, 0))] ∧ rtakeb_J1 r3 l19 p20 = some r) ?_ ?_
    ·
      rintro _ w21 ⟨l19, p20, ⟨us, rfl⟩, hs22, hm⟩
      unfold rtakeb_J1 at hm
      refine W.seq fun K23 hK23 => ?_
      refine W.seq fun K24 hK24 => ?_
      refine W.region ?_
      refine ops_run 2 (by kernel_rfl) ?_
      refine ops_done (by kernel_rfl) ?_
      refine hK24 _ _ ?_
      clear hK24
      refine W.cond (!decide (p20 = 0)) (by kernel_rfl) (fun h25 => ?_) (fun h25 => ?_)
      rotate_left
      ·
        have h25p : p20 = 0 := of_decide_eq_true (bnot_false h25)
        replace hm := ite_yes hm h25p
        refine W.skip ?_
        refine hK23 _ _ ?_
        clear hK23
        refine W.seq fun K26 hK26 => ?_
        refine W.region ?_
        refine ops_run 3 (by kernel_rfl) ?_
        refine ops_done (by kernel_rfl) ?_
        refine hK26 _ _ ?_
        clear hK26
        refine W.ret ?_
        obtain rfl := some_inj hm
        have hs27 := St.f1 hs22
        have hs28 := St.f2 hs27
        have hs29 := St.f3 hs28
        refine ret_of (.tuple #[(.int .i64 r3.1), (.int .i64 0)]) (by kernel_rfl) ⟨_, ⟨rfl, rfl⟩, hs29⟩
      ·
        have h25p : ¬ (p20 = 0) := of_decide_eq_false (bnot_true h25)
        replace hm := ite_no hm h25p
        refine W.seq fun K30 hK30 => ?_
        refine W.region ?_
        refine ops_run 3 (by kernel_rfl) ?_
        refine ops_done (by kernel_rfl) ?_
        refine hK30 _ _ ?_
        clear hK30
        refine W.ret (ret_seq ?_)
        obtain rfl := some_inj hm
        have hs31 := St.f1 hs22
        have hs32 := St.f2 hs31
        have hs33 := St.f3 hs32
        refine ret_of (.tuple #[(.int .i64 0), (.int .i64 p20)]) (by kernel_rfl) ⟨_, ⟨rfl, rfl⟩, hs33⟩
    ·
      refine W.seq fun K34 hK34 => ?_
      refine W.region ?_
      refine ops_run 1 (by kernel_rfl) ?_
      refine ops_done (by kernel_rfl) ?_
      refine hK34 _ _ ?_
      clear hK34
      refine W.block ?_
      have hs42 := St.f2 hs18
      have hs43 := St.f3 hs42
      have hs44 := St.f2 hs43
      have hs45 := St.f3 hs44
      refine W.loop_iter (G := (List (Int × Int)) × Int × Int) (σ := (List (Int × Int)) × Int × Int) (fun | (l35, p36, p37) => (l35, p36, p37)) (fun | (l35, p36, p37), s_, w_ => (∃ us, s_ = slots 49 [(0, (.pointer (some ⟨ab, 0, none⟩))), (4, (.int .i64 r3.1)), (6, (.int .i64 p36)), (7, (.int .i64 p37))] us) ∧ St B w l0 w_ [refA (ptr vb) img l35, blk bb (.cells [(.pointer (some ⟨vb, 0, none⟩)), (.int .i64 ba), (.int .i64 gb)].toArray 202 (0, 0)), blk ib (.cells [(.pointer (some ⟨vb, 0, none⟩)), (.int .i64 ia), (.int .i64 gi)].toArray 202 (0, 0)), blk ab (.cells [(.pointer (some ⟨vb, 0, none⟩)), (.int .i64 gw), (.int .i64 gi), (.int .i64 gb), (.pointer (some ⟨ib, 0, none⟩)), (.pointer (some ⟨bb, 0, none⟩))].toArray 204 (0, 0))]) (r12.2, r12.1, 0) ⟨slots_intro _ (by kernel_rfl), hs45⟩ hm ?_
      rintro k38 ih39 ⟨l35, p36, p37⟩ _ w40 ⟨⟨us, rfl⟩, hs41⟩ hm
      replace hm : rtakeb_B0 img gw gi gb r3 k38 l35 p36 p37 = some r := hm
      unfold rtakeb_B0 at hm
      refine W.seq fun K46 hK46 => ?_
      refine W.seq fun K47 hK47 => ?_
      refine W.region ?_
      refine ops_run 3 (by kernel_rfl) ?_
      rcases Bool.eq_false_or_eq_true (decide (p37 < 8)) with h48 | h48
      ·
        have h48p : p37 < 8 := of_decide_eq_true h48
        replace hm := ite_yes hm h48p
        refine ops_set 26 (v := .bool true) (eq_bool_of (by kernel_rfl) h48) ?_
        refine ops_set 25 (v := .bool true) (eq_bool_of (by kernel_rfl) h48) ?_
        refine ops_run 3 (by kernel_rfl) ?_
        refine ops_done (by kernel_rfl) ?_
        refine hK47 _ _ ?_
        clear hK47
        refine W.cond (decide (p36 = 0)) (by kernel_rfl) (fun h49 => ?_) (fun h49 => ?_)
        ·
          have h49p : p36 = 0 := of_decide_eq_true h49
          replace hm := ite_yes hm h49p
          refine W.skip ?_
          refine hK46 _ _ ?_
          clear hK46
          refine W.seq fun K50 hK50 => ?_
          refine W.block ?_
          have hs51 := hs41.drew
          have hs52 := St.f3 hs51
          have hs53 := St.f3 hs52
          have hs54 := St.f3 hs53
          have hs55 := St.tk3 hs54
          refine W.regionD [(0, 0), (1, 1), (2, 2), (4, 4), (0, 0), (16, 16), (32, 32), (64, 64), (0, 0), (384, 384), (0, 0), (1536, 1536), (2568, 2056), (8191, 4096)] (fun w_ => St B w l0 w_ [blk bb (.cells [(.pointer (some ⟨vb, 0, none⟩)), (.int .i64 ba), (.int .i64 gb)].toArray 202 (0, 0)), blk ib (.cells [(.pointer (some ⟨vb, 0, none⟩)), (.int .i64 ia), (.int .i64 gi)].toArray 202 (0, 0)), blk ab (.cells [(.pointer (some ⟨vb, 0, none⟩)), (.int .i64 gw), (.int .i64 gi), (.int .i64 gb), (.pointer (some ⟨ib, 0, none⟩)), (.pointer (some ⟨bb, 0, none⟩))].toArray 204 (0, 0))]) (by kernel_rfl) hs55 ?_
          refine any_val (v := (.pointer (some ⟨ab, 0, none⟩))) (v' := (.pointer (some ⟨ab, 0, none⟩))) 0 (by kernel_rfl) (fun _ => by kernel_rfl) rfl hs55 ?_
          refine any_val (v := (.pointer (some ⟨ab, 0, none⟩))) (v' := (.pointer (some ⟨ab, 0, none⟩))) 1 (by kernel_rfl) (fun _ => by kernel_rfl) rfl hs55 ?_
          refine any_val (v := (.pointer (some ⟨ab, 0, none⟩))) (v' := (.pointer (some ⟨ab, 0, none⟩))) 2 (by kernel_rfl) (fun _ => by kernel_rfl) rfl hs55 ?_
          refine any_R 3 (by kernel_rfl) (fun _ hS_ => runs_load (ad := ⟨ab, 0, none⟩) (v := (.pointer (some ⟨vb, 0, none⟩))) (by kernel_rfl) (hS_.cellAt 2 rfl rfl)) hs55 ?_
          refine any_val (v := (.pointer (some ⟨ab, 0, none⟩))) (v' := (.pointer (some ⟨ab, 0, none⟩))) 4 (by kernel_rfl) (fun _ => by kernel_rfl) rfl hs55 ?_
          refine any_val (v := (.pointer (some ⟨ab, 0, none⟩))) (v' := (.pointer (some ⟨ab, 0, none⟩))) 5 (by kernel_rfl) (fun _ => by kernel_rfl) rfl hs55 ?_
          refine any_val (v := (.pointer (some ⟨ab, 1, none⟩))) (v' := (.pointer (some ⟨ab, 1, none⟩))) 6 (by kernel_rfl) (fun _ => by kernel_rfl) rfl hs55 ?_
          refine any_R 7 (by kernel_rfl) (fun _ hS_ => runs_loadAgg (ad := ⟨ab, 1, none⟩) (cs := [(.int .i64 gw), (.int .i64 gi), (.int .i64 gb)]) (by kernel_rfl) (cells_sub (hS_.heapAt 2 rfl) rfl)) hs55 ?_
          refine any_val (v := (.int .i64 r3.1)) (v' := (.int .i64 r3.1)) 8 (by kernel_rfl) (fun _ => by kernel_rfl) rfl hs55 ?_
          refine any_val (v := (.int .i64 p37)) (v' := (.int .i64 p37)) 10 (by kernel_rfl) (fun _ => by kernel_rfl) rfl hs55 ?_
          refine any_step 9 (by kernel_rfl) (by kernel_rfl) ?_
          refine ops_call0 hs51 (by kernel_rfl) (rblockat_spec (gw := gw) (gi := gi) (gb := gb) (n_ := r3.1) B _) ?_
          rintro _ _ w56 ⟨rfl, rfl⟩ hs57
          have hs58 := St.ap0 hs57
          have hs59 := St.f3 hs58
          have hs60 := St.f3 hs59
          have hs61 := St.f3 hs60
          have hs62 := St.tk3 hs61
          refine ops_done (by kernel_rfl) ⟨hs62, ?_⟩
          obtain ⟨h63, hm⟩ := need_some hm
          refine any_val (v := .int .i64 (IntKind.i64.wrap ((placeOf 9 gw gi gb r3.1) + p37))) (v' := .int .i64 ((placeOf 9 gw gi gb r3.1) + p37)) 11 (by kernel_rfl) (fun _ => by kernel_rfl) (congrArg (Value.int .i64) (wrap_i64 h63.1 h63.2)) hs62 ?_
          refine any_step 12 (by kernel_rfl) (by kernel_rfl) ?_
          obtain ⟨r64, h65, hm⟩ := bind_some hm
          replace h65 := some_inj h65
          refine ops_call1 hs58 (by kernel_rfl) (rput_spec (p := (.pointer (some ⟨vb, 0, none⟩))) (img := img) (l := l35) (at_ := ((placeOf 9 gw gi gb r3.1) + p37)) (x_ := 0) B _) ?_
          rintro _ _ w68 ⟨hv66, hH67⟩ hs69
          rw [h65] at hv66
          try rw [h65] at hH67
          subst hv66 hH67
          have hs70 := St.ap1 hs69
          have hs71 := St.f3 hs70
          have hs72 := St.f3 hs71
          have hs73 := St.f3 hs72
          have hs74 := St.tk3 hs73
          refine ops_done (by kernel_rfl) ⟨hs74, ?_⟩
          refine any_val (v := (.int .i64 r64.1)) (v' := (.int .i64 r64.1)) 13 (by kernel_rfl) (fun _ => by kernel_rfl) rfl hs74 ?_
          refine any_done (by kernel_rfl) ?_
          refine normal_block ?_
          refine hK50 _ _ ?_
          clear hK50
          refine W.region ?_
          refine ops_run 1 (by kernel_rfl) ?_
          obtain ⟨h75, hm⟩ := need_some hm
          refine ops_val (v := .int .i64 (IntKind.i64.wrap (p37 + 1))) (v' := .int .i64 (p37 + 1)) (by kernel_rfl) (congrArg (Value.int .i64) (wrap_i64 h75.1 h75.2)) ?_
          refine ops_run 1 (by kernel_rfl) ?_
          refine ops_done (by kernel_rfl) ?_
          refine loopAt_next ?_
          exact ih39 (r64.2, r64.1, (p37 + 1)) _ _ ⟨slots_intro _ (by kernel_rfl), hs70⟩ hm
        ·
          have h49p : ¬ (p36 = 0) := of_decide_eq_false h49
          replace hm := ite_no hm h49p
          refine W.exit (exit_seq (exit_seq (exit_here ?_)))
          exact ⟨l35, p36, slots_intro _ (by kernel_rfl), hs41, hm⟩
      ·
        have h48p : ¬ (p37 < 8) := of_decide_eq_false h48
        replace hm := ite_no hm h48p
        refine ops_set 26 (v := .bool false) (eq_bool_of (by kernel_rfl) h48) ?_
        refine ops_set 25 (v := .bool false) (eq_bool_of (by kernel_rfl) h48) ?_
        refine ops_run 3 (by kernel_rfl) ?_
        refine ops_done (by kernel_rfl) ?_
        refine hK47 _ _ ?_
        clear hK47
        refine W.cond_false false (by kernel_rfl) rfl ?_
        refine W.exit (exit_seq (exit_seq (exit_here ?_)))
        exact ⟨l35, p36, slots_intro _ (by kernel_rfl), hs41, hm⟩
  ·
    have h10p : ¬ (r3.2 = true) := ne_true_of_eq_false (bnot_true h10)
    replace hm := ite_no hm h10p
    refine W.seq fun K76 hK76 => ?_
    refine W.region ?_
    refine ops_run 2 (by kernel_rfl) ?_
    refine ops_done (by kernel_rfl) ?_
    refine hK76 _ _ ?_
    clear hK76
    refine W.ret (ret_seq ?_)
    obtain rfl := some_inj hm
    refine ret_of (.tuple #[(.int .i64 0), (.int .i64 7)]) (by kernel_rfl) ⟨_, ⟨rfl, rfl⟩, hs7⟩

def rgivei_M (img : List Int) (l : List (Int × Int)) (gi : Int) (ia : Int) (n_ : Int) : Option (Int × List (Int × Int)) :=
  (rgive_M img l ia gi n_).bind fun r3 =>
some (r3.1, r3.2)

set_option maxRecDepth 20000 in
set_option linter.unusedVariables false in
theorem rgivei_walk {img : List Int} {l : List (Int × Int)} {gw : Int} {gi : Int} {gb : Int} {ia : Int} {ba : Int} {n_ : Int} {ab ib bb vb : Nat} {r : Int × List (Int × Int)} (B : Nat) (w : World) (hm : rgivei_M img l gi ia n_ = some r) : Spec Tryd.prog 84 #[(.pointer (some ⟨ab, 0, none⟩)), (.int .i64 n_)] B w [blk ab (.cells [(.pointer (some ⟨vb, 0, none⟩)), (.int .i64 gw), (.int .i64 gi), (.int .i64 gb), (.pointer (some ⟨ib, 0, none⟩)), (.pointer (some ⟨bb, 0, none⟩))].toArray 204 (0, 0)), blk ib (.cells [(.pointer (some ⟨vb, 0, none⟩)), (.int .i64 ia), (.int .i64 gi)].toArray 202 (0, 0)), blk bb (.cells [(.pointer (some ⟨vb, 0, none⟩)), (.int .i64 ba), (.int .i64 gb)].toArray 202 (0, 0)), refA (ptr vb) img l] (fun v H' => v = .int .i64 r.1 ∧ H' = [blk ab (.cells [(.pointer (some ⟨vb, 0, none⟩)), (.int .i64 gw), (.int .i64 gi), (.int .i64 gb), (.pointer (some ⟨ib, 0, none⟩)), (.pointer (some ⟨bb, 0, none⟩))].toArray 204 (0, 0)), blk ib (.cells [(.pointer (some ⟨vb, 0, none⟩)), (.int .i64 ia), (.int .i64 gi)].toArray 202 (0, 0)), blk bb (.cells [(.pointer (some ⟨vb, 0, none⟩)), (.int .i64 ba), (.int .i64 gb)].toArray 202 (0, 0)), refA (ptr vb) img r.2]) := by
  refine spec_W Tryd.func84 rfl fun l0 hs => ?_
  unfold rgivei_M at hm
  refine W.seq fun K1 hK1 => ?_
  refine W.region ?_
  refine ops_run 1 (by kernel_rfl) ?_
  refine ops_done (by kernel_rfl) ?_
  refine hK1 _ _ ?_
  clear hK1
  refine W.seq fun K2 hK2 => ?_
  refine W.region ?_
  refine ops_run 3 (by kernel_rfl) ?_
  refine ops_R (runs_load (ad := ⟨ab, 4, none⟩) (v := (.pointer (some ⟨ib, 0, none⟩))) (by kernel_rfl) (hs.cellAt 0 rfl rfl)) ?_
  refine ops_run 1 (by kernel_rfl) ?_
  obtain ⟨r3, h4, hm⟩ := bind_some hm
  have hs5 := St.f3 hs
  have hs6 := St.f2 hs5
  refine ops_call2 hs6 (by kernel_rfl) (rgive_walk (mb := ib) (vb := vb) (many := gi) (at_ := ia) (hm := h4) B _) ?_
  rintro _ _ w7 ⟨rfl, rfl⟩ hs8
  have hs9 := St.ap2 hs8
  refine ops_run 1 (by kernel_rfl) ?_
  refine ops_done (by kernel_rfl) ?_
  refine hK2 _ _ ?_
  clear hK2
  refine W.ret ?_
  obtain rfl := some_inj hm
  have hs10 := St.f1 hs9
  have hs11 := St.f3 hs10
  have hs12 := St.f2 hs11
  have hs13 := St.f3 hs12
  refine ret_of (.int .i64 r3.1) (by kernel_rfl) ⟨_, ⟨rfl, rfl⟩, hs13⟩

def rgiveb_M (img : List Int) (l : List (Int × Int)) (gb : Int) (ba : Int) (n_ : Int) : Option (Int × List (Int × Int)) :=
  (rgive_M img l ba gb n_).bind fun r3 =>
some (r3.1, r3.2)

set_option maxRecDepth 20000 in
set_option linter.unusedVariables false in
theorem rgiveb_walk {img : List Int} {l : List (Int × Int)} {gw : Int} {gi : Int} {gb : Int} {ia : Int} {ba : Int} {n_ : Int} {ab ib bb vb : Nat} {r : Int × List (Int × Int)} (B : Nat) (w : World) (hm : rgiveb_M img l gb ba n_ = some r) : Spec Tryd.prog 85 #[(.pointer (some ⟨ab, 0, none⟩)), (.int .i64 n_)] B w [blk ab (.cells [(.pointer (some ⟨vb, 0, none⟩)), (.int .i64 gw), (.int .i64 gi), (.int .i64 gb), (.pointer (some ⟨ib, 0, none⟩)), (.pointer (some ⟨bb, 0, none⟩))].toArray 204 (0, 0)), blk ib (.cells [(.pointer (some ⟨vb, 0, none⟩)), (.int .i64 ia), (.int .i64 gi)].toArray 202 (0, 0)), blk bb (.cells [(.pointer (some ⟨vb, 0, none⟩)), (.int .i64 ba), (.int .i64 gb)].toArray 202 (0, 0)), refA (ptr vb) img l] (fun v H' => v = .int .i64 r.1 ∧ H' = [blk ab (.cells [(.pointer (some ⟨vb, 0, none⟩)), (.int .i64 gw), (.int .i64 gi), (.int .i64 gb), (.pointer (some ⟨ib, 0, none⟩)), (.pointer (some ⟨bb, 0, none⟩))].toArray 204 (0, 0)), blk ib (.cells [(.pointer (some ⟨vb, 0, none⟩)), (.int .i64 ia), (.int .i64 gi)].toArray 202 (0, 0)), blk bb (.cells [(.pointer (some ⟨vb, 0, none⟩)), (.int .i64 ba), (.int .i64 gb)].toArray 202 (0, 0)), refA (ptr vb) img r.2]) := by
  refine spec_W Tryd.func85 rfl fun l0 hs => ?_
  unfold rgiveb_M at hm
  refine W.seq fun K1 hK1 => ?_
  refine W.region ?_
  refine ops_run 1 (by kernel_rfl) ?_
  refine ops_done (by kernel_rfl) ?_
  refine hK1 _ _ ?_
  clear hK1
  refine W.seq fun K2 hK2 => ?_
  refine W.region ?_
  refine ops_run 3 (by kernel_rfl) ?_
  refine ops_R (runs_load (ad := ⟨ab, 5, none⟩) (v := (.pointer (some ⟨bb, 0, none⟩))) (by kernel_rfl) (hs.cellAt 0 rfl rfl)) ?_
  refine ops_run 1 (by kernel_rfl) ?_
  obtain ⟨r3, h4, hm⟩ := bind_some hm
  have hs5 := St.f3 hs
  have hs6 := St.f3 hs5
  refine ops_call2 hs6 (by kernel_rfl) (rgive_walk (mb := bb) (vb := vb) (many := gb) (at_ := ba) (hm := h4) B _) ?_
  rintro _ _ w7 ⟨rfl, rfl⟩ hs8
  have hs9 := St.ap2 hs8
  refine ops_run 1 (by kernel_rfl) ?_
  refine ops_done (by kernel_rfl) ?_
  refine hK2 _ _ ?_
  clear hK2
  refine W.ret ?_
  obtain rfl := some_inj hm
  have hs10 := St.f1 hs9
  have hs11 := St.f1 hs10
  have hs12 := St.f3 hs11
  have hs13 := St.f3 hs12
  refine ret_of (.int .i64 r3.1) (by kernel_rfl) ⟨_, ⟨rfl, rfl⟩, hs13⟩

def rfree_M (img : List Int) (l : List (Int × Int)) (gi : Int) (gb : Int) (ia : Int) (ba : Int) : Option (Int × Int) :=
  (rmcount_M img l ia gi).bind fun r4 =>
need (-9223372036854775808 ≤ (gi - r4) ∧ (gi - r4) ≤ 9223372036854775807) <|
(rmcount_M img l ba gb).bind fun r10 =>
need (-9223372036854775808 ≤ (gb - r10) ∧ (gb - r10) ≤ 9223372036854775807) <|
some ((gi - r4), (gb - r10))

set_option maxRecDepth 20000 in
set_option linter.unusedVariables false in
theorem rfree_walk {img : List Int} {l : List (Int × Int)} {gw : Int} {gi : Int} {gb : Int} {ia : Int} {ba : Int} {ab ib bb vb : Nat} {r : Int × Int} (B : Nat) (w : World) (hab : w.heap[ab]? = some (.cells [(.pointer (some ⟨vb, 0, none⟩)), (.int .i64 gw), (.int .i64 gi), (.int .i64 gb), (.pointer (some ⟨ib, 0, none⟩)), (.pointer (some ⟨bb, 0, none⟩))].toArray 204 (0, 0))) (hib : w.heap[ib]? = some (.cells [(.pointer (some ⟨vb, 0, none⟩)), (.int .i64 ia), (.int .i64 gi)].toArray 202 (0, 0))) (hbb : w.heap[bb]? = some (.cells [(.pointer (some ⟨vb, 0, none⟩)), (.int .i64 ba), (.int .i64 gb)].toArray 202 (0, 0))) (hv : RefAt (ptr vb) img l w) (hm : rfree_M img l gi gb ia ba = some r) : Spec Tryd.prog 87 #[(.pointer (some ⟨ab, 0, none⟩))] B w [] (fun v H' => v = .tuple #[.int .i64 r.1, .int .i64 r.2] ∧ H' = []) := by
  refine spec_Q Tryd.func87 rfl fun hs => ?_
  unfold rfree_M at hm
  refine W.seq fun K1 hK1 => ?_
  refine W.region ?_
  refine ops_run 2 (by kernel_rfl) ?_
  refine ops_done (by kernel_rfl) ?_
  refine hK1 _ _ ?_
  clear hK1
  refine W.seq fun K2 hK2 => ?_
  have hs3 := hs.drew
  refine W.regionD [(0, 0), (1, 1), (2, 2), (4, 4), (8, 8), (0, 0), (32, 32), (64, 64), (128, 128), (256, 256), (528, 528), (0, 0), (2048, 2048), (4096, 4096), (8192, 8192), (16384, 16384), (0, 0), (65536, 65536), (131072, 131072), (262144, 262144), (524800, 524288), (1081344, 1081344), (1050623, 1024), (8388607, 2097152)] (fun w_ => St B w [] w_ []) (by kernel_rfl) hs3 ?_
  refine any_val (v := (.pointer (some ⟨ab, 0, none⟩))) (v' := (.pointer (some ⟨ab, 0, none⟩))) 0 (by kernel_rfl) (fun _ => by kernel_rfl) rfl hs3 ?_
  refine any_val (v := (.pointer (some ⟨ab, 0, none⟩))) (v' := (.pointer (some ⟨ab, 0, none⟩))) 1 (by kernel_rfl) (fun _ => by kernel_rfl) rfl hs3 ?_
  refine any_val (v := (.pointer (some ⟨ab, 1, none⟩))) (v' := (.pointer (some ⟨ab, 1, none⟩))) 2 (by kernel_rfl) (fun _ => by kernel_rfl) rfl hs3 ?_
  refine any_val (v := (.pointer (some ⟨ab, 2, none⟩))) (v' := (.pointer (some ⟨ab, 2, none⟩))) 3 (by kernel_rfl) (fun _ => by kernel_rfl) rfl hs3 ?_
  refine any_R 4 (by kernel_rfl) (fun _ hS_ => runs_load (ad := ⟨ab, 2, none⟩) (v := (.int .i64 gi)) (by kernel_rfl) (cell_of_blk (hS_.old hab) rfl)) hs3 ?_
  refine any_val (v := (.pointer (some ⟨ab, 0, none⟩))) (v' := (.pointer (some ⟨ab, 0, none⟩))) 5 (by kernel_rfl) (fun _ => by kernel_rfl) rfl hs3 ?_
  refine any_val (v := (.pointer (some ⟨ab, 0, none⟩))) (v' := (.pointer (some ⟨ab, 0, none⟩))) 6 (by kernel_rfl) (fun _ => by kernel_rfl) rfl hs3 ?_
  refine any_val (v := (.pointer (some ⟨ab, 4, none⟩))) (v' := (.pointer (some ⟨ab, 4, none⟩))) 7 (by kernel_rfl) (fun _ => by kernel_rfl) rfl hs3 ?_
  refine any_R 8 (by kernel_rfl) (fun _ hS_ => runs_load (ad := ⟨ab, 4, none⟩) (v := (.pointer (some ⟨ib, 0, none⟩))) (by kernel_rfl) (cell_of_blk (hS_.old hab) rfl)) hs3 ?_
  refine any_val (v := (.pointer (some ⟨ab, 0, none⟩))) (v' := (.pointer (some ⟨ab, 0, none⟩))) 11 (by kernel_rfl) (fun _ => by kernel_rfl) rfl hs3 ?_
  refine any_val (v := (.pointer (some ⟨ab, 0, none⟩))) (v' := (.pointer (some ⟨ab, 0, none⟩))) 12 (by kernel_rfl) (fun _ => by kernel_rfl) rfl hs3 ?_
  refine any_val (v := (.pointer (some ⟨ab, 1, none⟩))) (v' := (.pointer (some ⟨ab, 1, none⟩))) 13 (by kernel_rfl) (fun _ => by kernel_rfl) rfl hs3 ?_
  refine any_val (v := (.pointer (some ⟨ab, 3, none⟩))) (v' := (.pointer (some ⟨ab, 3, none⟩))) 14 (by kernel_rfl) (fun _ => by kernel_rfl) rfl hs3 ?_
  refine any_R 15 (by kernel_rfl) (fun _ hS_ => runs_load (ad := ⟨ab, 3, none⟩) (v := (.int .i64 gb)) (by kernel_rfl) (cell_of_blk (hS_.old hab) rfl)) hs3 ?_
  refine any_val (v := (.pointer (some ⟨ab, 0, none⟩))) (v' := (.pointer (some ⟨ab, 0, none⟩))) 16 (by kernel_rfl) (fun _ => by kernel_rfl) rfl hs3 ?_
  refine any_val (v := (.pointer (some ⟨ab, 0, none⟩))) (v' := (.pointer (some ⟨ab, 0, none⟩))) 17 (by kernel_rfl) (fun _ => by kernel_rfl) rfl hs3 ?_
  refine any_val (v := (.pointer (some ⟨ab, 5, none⟩))) (v' := (.pointer (some ⟨ab, 5, none⟩))) 18 (by kernel_rfl) (fun _ => by kernel_rfl) rfl hs3 ?_
  refine any_R 19 (by kernel_rfl) (fun _ hS_ => runs_load (ad := ⟨ab, 5, none⟩) (v := (.pointer (some ⟨bb, 0, none⟩))) (by kernel_rfl) (cell_of_blk (hS_.old hab) rfl)) hs3 ?_
  refine any_step 9 (by kernel_rfl) (by kernel_rfl) ?_
  obtain ⟨r4, h5, hm⟩ := bind_some hm
  refine ops_call0 hs3 (by kernel_rfl) (rmcount_walk (hmb := (hs3.old hib)) (hv := (refAt_old hs3 hv)) (hm := h5) B _) ?_
  rintro _ _ w6 ⟨rfl, rfl⟩ hs7
  have hs8 := St.ap0 hs7
  refine ops_done (by kernel_rfl) ⟨hs8, ?_⟩
  obtain ⟨h9, hm⟩ := need_some hm
  refine any_val (v := .int .i64 (IntKind.i64.wrap (gi - r4))) (v' := .int .i64 (gi - r4)) 10 (by kernel_rfl) (fun _ => by kernel_rfl) (congrArg (Value.int .i64) (wrap_i64 h9.1 h9.2)) hs8 ?_
  refine any_step 20 (by kernel_rfl) (by kernel_rfl) ?_
  obtain ⟨r10, h11, hm⟩ := bind_some hm
  refine ops_call0 hs8 (by kernel_rfl) (rmcount_walk (hmb := (hs8.old hbb)) (hv := (refAt_old hs8 hv)) (hm := h11) B _) ?_
  rintro _ _ w12 ⟨rfl, rfl⟩ hs13
  have hs14 := St.ap0 hs13
  refine ops_done (by kernel_rfl) ⟨hs14, ?_⟩
  obtain ⟨h15, hm⟩ := need_some hm
  refine any_val (v := .int .i64 (IntKind.i64.wrap (gb - r10))) (v' := .int .i64 (gb - r10)) 21 (by kernel_rfl) (fun _ => by kernel_rfl) (congrArg (Value.int .i64) (wrap_i64 h15.1 h15.2)) hs14 ?_
  refine any_val (v := (.int .i64 (gi - r4))) (v' := (.int .i64 (gi - r4))) 22 (by kernel_rfl) (fun _ => by kernel_rfl) rfl hs14 ?_
  refine any_val (v := (.int .i64 (gb - r10))) (v' := (.int .i64 (gb - r10))) 23 (by kernel_rfl) (fun _ => by kernel_rfl) rfl hs14 ?_
  refine any_done (by kernel_rfl) ?_
  refine hK2 _ _ ?_
  clear hK2
  refine W.ret ?_
  obtain rfl := some_inj hm
  refine ret_of (.tuple #[(.int .i64 (gi - r4)), (.int .i64 (gb - r10))]) (by kernel_rfl) ⟨_, ⟨rfl, rfl⟩, hs14⟩

def rused_M (img : List Int) (l : List (Int × Int)) (gb : Int) (ba : Int) (n_ : Int) : Option (Bool) :=
  (rmget_M img l ba gb n_).bind fun r3 =>
some r3

set_option maxRecDepth 20000 in
set_option linter.unusedVariables false in
theorem rused_walk {img : List Int} {l : List (Int × Int)} {gw : Int} {gi : Int} {gb : Int} {ia : Int} {ba : Int} {n_ : Int} {ab ib bb vb : Nat} {r : Bool} (B : Nat) (w : World) (hab : w.heap[ab]? = some (.cells [(.pointer (some ⟨vb, 0, none⟩)), (.int .i64 gw), (.int .i64 gi), (.int .i64 gb), (.pointer (some ⟨ib, 0, none⟩)), (.pointer (some ⟨bb, 0, none⟩))].toArray 204 (0, 0))) (hib : w.heap[ib]? = some (.cells [(.pointer (some ⟨vb, 0, none⟩)), (.int .i64 ia), (.int .i64 gi)].toArray 202 (0, 0))) (hbb : w.heap[bb]? = some (.cells [(.pointer (some ⟨vb, 0, none⟩)), (.int .i64 ba), (.int .i64 gb)].toArray 202 (0, 0))) (hv : RefAt (ptr vb) img l w) (hm : rused_M img l gb ba n_ = some r) : Spec Tryd.prog 86 #[(.pointer (some ⟨ab, 0, none⟩)), (.int .i64 n_)] B w [] (fun v H' => v = .bool r ∧ H' = []) := by
  refine spec_Q Tryd.func86 rfl fun hs => ?_
  unfold rused_M at hm
  refine W.seq fun K1 hK1 => ?_
  refine W.region ?_
  refine ops_run 1 (by kernel_rfl) ?_
  refine ops_done (by kernel_rfl) ?_
  refine hK1 _ _ ?_
  clear hK1
  refine W.seq fun K2 hK2 => ?_
  refine W.region ?_
  refine ops_run 3 (by kernel_rfl) ?_
  refine ops_R (runs_load (ad := ⟨ab, 5, none⟩) (v := (.pointer (some ⟨bb, 0, none⟩))) (by kernel_rfl) (cell_of_blk (hs.old hab) rfl)) ?_
  refine ops_run 1 (by kernel_rfl) ?_
  obtain ⟨r3, h4, hm⟩ := bind_some hm
  refine ops_call0 hs (by kernel_rfl) (rmget_walk (hmb := (hs.old hbb)) (hv := (refAt_old hs hv)) (hm := h4) B _) ?_
  rintro _ _ w5 ⟨rfl, rfl⟩ hs6
  have hs7 := St.ap0 hs6
  refine ops_run 1 (by kernel_rfl) ?_
  refine ops_done (by kernel_rfl) ?_
  refine hK2 _ _ ?_
  clear hK2
  refine W.ret ?_
  obtain rfl := some_inj hm
  refine ret_of (.bool r3) (by kernel_rfl) ⟨_, ⟨rfl, rfl⟩, hs7⟩

end Go.Proofs.YthimamnblklkbaaDoor

/- Inodes and blocks taken and given: plain laws, of the code and of its reference. -/
namespace Go.Proofs.YthimamnblklkbaaDoor
open Go Go.RowKit
set_option linter.unusedVariables false

section
variable {img : List Int} {l : List (Int × Int)} {at_ many : Int}

/-! ### the reference's map of bits -/
theorem rmget_ok {i_ : Int} (hv : VR img l) (ha : 0 ≤ at_ ∧ at_ ≤ 1000000000000) (hm : many ≤ 1000000000000) :
    rmget_M img l at_ many i_ = some (decide (0 ≤ i_ ∧ i_ < many) && mbits img l at_ i_.toNat) := by
  unfold rmget_M
  by_cases h : 0 ≤ i_
  · rw [if_pos h]
    by_cases h2 : i_ < many
    · rw [if_pos h2, Int.tdiv_eq_ediv_of_nonneg h, Int.tmod_eq_emod_of_nonneg h]
      refine need_of (by omega) (need_of (by omega) (need_of (by omega) (need_of (by omega) ?_)))
      rw [shr_tmod (hv _) (by omega), show decide (0 ≤ i_ ∧ i_ < many) = true from decide_eq_true ⟨h, h2⟩, Bool.true_and]
      unfold mbits
      rw [show at_ + ((i_.toNat / 64 : Nat) : Int) = at_ + i_ / 64 by omega, show i_.toNat % 64 = (i_ % 64).toNat by omega]
      cases bitI (vget img l (at_ + i_ / 64)) (i_ % 64).toNat <;> rfl
    · rw [if_neg h2, decide_eq_false (fun q => h2 q.2), Bool.false_and]
  · rw [if_neg h, decide_eq_false (fun q => h q.1), Bool.false_and]

theorem setb_same {v : Int} {j : Nat} (hv : U64 v) (hj : j < 64) : setb v j (bitI v j) = v := by
  refine bitI_ext (setb_u64 hv hj) hv fun t ht => ?_
  rw [bitI_setb hv hj]
  split
  · rename_i e; rw [e]
  · rfl
theorem setb_flip {v : Int} {j : Nat} {b : Bool} (hv : U64 v) (hj : j < 64) (h : ¬ (b = true ↔ bitI v j = true)) : bits .xor .u64 v (2 ^ j) = setb v j b := by
  refine bitI_ext (bits_u64 hv (pow_u64 hj)) (setb_u64 hv hj) fun t ht => ?_
  rw [bitI_setb hv hj, bitI_xor hv (pow_u64 hj), bitI_pow]
  by_cases e : t = j
  · subst e
    rw [if_pos rfl]
    cases b <;> cases hb : bitI v t <;> simp_all
  · rw [if_neg e]; simp [show ¬ j = t from fun q => e q.symm]
theorem rmset_ok {i_ : Int} {is_ : Bool} (hv : VR img l) (ha : 0 ≤ at_ ∧ at_ ≤ 1000000000000) (hm : many ≤ 1000000000000) :
    rmset_M img l at_ many i_ is_ = some (msetF img l at_ many i_ is_) := by
  unfold rmset_M msetF
  by_cases h : 0 ≤ i_
  · rw [if_neg (by omega)]
    by_cases h2 : i_ < many
    · rw [if_neg (by omega), if_pos ⟨h, h2⟩, Int.tdiv_eq_ediv_of_nonneg h, Int.tmod_eq_emod_of_nonneg h]
      refine need_of (by omega) (need_of (by omega) (need_of (by omega) (need_of (by omega) (bind_of rfl ?_))))
      refine bind_of (rmget_ok hv ha hm) ?_
      rw [decide_eq_true ⟨h, h2⟩, Bool.true_and, shl_one (by omega)]
      have e : mbits img l at_ i_.toNat = bitI (vget img l (at_ + i_ / 64)) (i_ % 64).toNat := by
        unfold mbits
        rw [show at_ + ((i_.toNat / 64 : Nat) : Int) = at_ + i_ / 64 by omega, show i_.toNat % 64 = (i_ % 64).toNat by omega]
      rw [e]
      have j1 : ∀ x, rmset_J1 img l at_ i_ x = some (vput img l (at_ + i_ / 64) x) := by
        intro x
        unfold rmset_J1
        rw [Int.tdiv_eq_ediv_of_nonneg h]
        exact need_of (by omega) (need_of (by omega) (bind_of rfl rfl))
      by_cases h3 : is_ = true ↔ bitI (vget img l (at_ + i_ / 64)) (i_ % 64).toNat = true
      · rw [if_pos h3, j1]
        have e2 : is_ = bitI (vget img l (at_ + i_ / 64)) (i_ % 64).toNat := Bool.eq_iff_iff.2 h3
        rw [e2, setb_same (hv _) (by omega)]
      · rw [if_neg h3]
        refine bind_of rfl ?_
        rw [j1, setb_flip (hv _) (by omega) h3]
    · rw [if_pos (by omega), if_neg (fun q => h2 q.2)]
  · rw [if_pos (by omega), if_neg (fun q => h q.1)]
theorem rmclear_ok (hv : VR img l) (ha : 0 ≤ at_ ∧ at_ ≤ 1000000000000) (hm : 0 ≤ many ∧ many ≤ 1000000000000) :
    rmclear_M img l at_ many = some (lst (mbits img l at_) many.toNat) := by
  unfold rmclear_M
  refine iter_run (fun s => 0 ≤ s ∧ s ≤ many ∧ ∀ j, j < s.toNat → mbits img l at_ j = true) (fun s => (many - s).toNat) ?_ _ _ ⟨by omega, by omega, fun j hj => absurd hj (by simp)⟩ (fuel_lt (by omega))
  rintro k s ⟨h1, h2, h3⟩ ih
  unfold rmclear_B0
  by_cases h : s < many
  · rw [if_pos h]
    refine bind_of (rmget_ok hv ha hm.2) ?_
    rw [decide_eq_true ⟨h1, h⟩, Bool.true_and]
    by_cases hb : mbits img l at_ s.toNat = true
    · rw [if_pos hb]
      refine need_of (by omega) (ih _ ⟨by omega, by omega, fun j hj => ?_⟩ (by omega))
      by_cases e : j = s.toNat
      · rw [e]; exact hb
      · exact h3 j (by omega)
    · rw [if_neg hb, lst_at (i := s.toNat) (by omega) (by simpa using hb) h3]
      congr 2
      omega
  · rw [if_neg h, lst_full fun j hj => h3 j (by omega)]
theorem rmcount_ok (hv : VR img l) (ha : 0 ≤ at_ ∧ at_ ≤ 1000000000000) (hm : 0 ≤ many ∧ many ≤ 1000000000000) :
    rmcount_M img l at_ many = some ((cnt (mbits img l at_) many.toNat : Nat) : Int) := by
  unfold rmcount_M
  refine iter_run (fun s => 0 ≤ s.2 ∧ s.2 ≤ many ∧ s.1 = ((cnt (mbits img l at_) s.2.toNat : Nat) : Int)) (fun s => (many - s.2).toNat) ?_ _ _ ⟨by simp, hm.1, rfl⟩ (fuel_lt (by simp only; omega))
  rintro k ⟨c, s⟩ ⟨h1, h2, h3⟩ ih
  simp only at h1 h2 h3 ih
  unfold rmcount_B0
  simp only
  have hle := cnt_le (mbits img l at_) s.toNat
  by_cases h : s < many
  · rw [if_pos h]
    refine bind_of (rmget_ok hv ha hm.2) ?_
    rw [decide_eq_true ⟨h1, h⟩, Bool.true_and]
    have e : cnt (mbits img l at_) (s + 1).toNat = cnt (mbits img l at_) s.toNat + (if mbits img l at_ s.toNat = true then 1 else 0) := by
      rw [show (s + 1).toNat = s.toNat + 1 by omega]; rfl
    by_cases hb : mbits img l at_ s.toNat = true
    · rw [if_pos hb] at e ⊢
      exact need_of (by omega) (need_of (by omega) (ih _ ⟨by simp only; omega, by simp only; omega, by simp only; omega⟩ (by simp only; omega)))
    · rw [if_neg hb] at e ⊢
      exact need_of (by omega) (ih _ ⟨by simp only; omega, by simp only; omega, by simp only; omega⟩ (by simp only; omega))
  · rw [if_neg h, h3, show s = many by omega]

/-! ### what is so of a view at work -/
def VI (img : List Int) (l : List (Int × Int)) : Prop := VR img l ∧ l.length ≤ 96
theorem VI.nil (h : ∀ x ∈ img, U64 x) : VI img [] := ⟨VR.nil h, by simp⟩
theorem VI.vput {a x : Int} (h : VI img l) (hx : U64 x) : VI img (vput img l a x).2 := by
  unfold Go.Proofs.YthimamnblklkbaaDoor.vput
  split
  · rename_i ha
    cases hl : vlook l a with
    | some y =>
      simp only
      exact ⟨h.1.put ha hx, by rw [vset_length_some (by rw [hl]; rfl)]; exact h.2⟩
    | none =>
      simp only
      split
      · exact h
      · refine ⟨h.1.put ha hx, ?_⟩
        rw [vset_none hl]
        simp
        omega
  · exact h
theorem VI.mset {i_ : Int} {is_ : Bool} (h : VI img l) : VI img (msetF img l at_ many i_ is_).2 := by
  unfold msetF
  split
  · exact h.vput (setb_u64 (h.1 _) (by omega))
  · exact h
/-- words made noughts, one behind the other. -/
def clearF (img : List Int) : List (Int × Int) → List Int → Int × List (Int × Int)
  | l, [] => (0, l)
  | l, n :: ns => if (vput img l n 0).1 = 0 then clearF img (vput img l n 0).2 ns else vput img l n 0
theorem VI.clear : ∀ {ns : List Int} {l : List (Int × Int)}, VI img l → VI img (clearF img l ns).2
  | [], _, h => h
  | n :: ns, l, h => by
    unfold clearF
    split
    · exact VI.clear (h.vput u64_zero)
    · exact h.vput u64_zero
theorem aclear_ok (ns : List Int) (hl : ns.length ≤ 1000000) : aclear_M img l ns = some (clearF img l ns) := by
  unfold aclear_M
  refine iter_run (fun s => 0 ≤ s.2 ∧ s.2 ≤ (ns.length : Int) ∧ clearF img s.1 (ns.drop s.2.toNat) = clearF img l ns) (fun s => ((ns.length : Int) - s.2).toNat) ?_ _ _ ⟨by simp, by simp, rfl⟩ (fuel_lt (by simp only; omega))
  rintro k ⟨m, p⟩ ⟨h1, h2, h3⟩ ih
  simp only at h1 h2 h3 ih
  unfold aclear_B0
  simp only
  by_cases h : p < (ns.length : Int)
  · have hlt : p.toNat < ns.length := by omega
    have e : ns.drop p.toNat = ns.getD p.toNat 0 :: ns.drop (p + 1).toNat := by
      rw [List.drop_eq_getElem_cons hlt, show (p + 1).toNat = p.toNat + 1 by omega]
      simp [hlt]
    rw [e, clearF] at h3
    rw [if_pos h]
    refine need_of ⟨h1, h⟩ (bind_of rfl ?_)
    by_cases h0 : (vput img m (ns.getD p.toNat 0) 0).1 = 0
    · rw [if_pos h0] at h3 ⊢
      exact need_of (by omega) (ih _ ⟨by simp only; omega, by simp only; omega, h3⟩ (by simp only; omega))
    · rw [if_neg h0] at h3 ⊢
      rw [← h3]
  · rw [if_neg h, ← h3, List.drop_of_length_le (by omega)]
    rfl
def ownL (p : Int) : List Int := [p + 0, p + 1, p + 2, p + 3, p + 4, p + 5, p + 6, p + 7]

/-! ### what is taken, what is given -/
def takeIF (img : List Int) (l : List (Int × Int)) (at_ many : Int) : Int × Int × List (Int × Int) :=
  if (lst (mbits img l at_) many.toNat).2 = true then
    if (msetF img l at_ many (lst (mbits img l at_) many.toNat).1 true).1 = 0 then ((lst (mbits img l at_) many.toNat).1, 0, (msetF img l at_ many (lst (mbits img l at_) many.toNat).1 true).2)
    else (0, (msetF img l at_ many (lst (mbits img l at_) many.toNat).1 true).1, (msetF img l at_ many (lst (mbits img l at_) many.toNat).1 true).2)
  else (0, 7, l)
def takeBF (img : List Int) (l : List (Int × Int)) (gw gi gb at_ : Int) : Int × Int × List (Int × Int) :=
  if (lst (mbits img l at_) gb.toNat).2 = true then
    if (msetF img l at_ gb (lst (mbits img l at_) gb.toNat).1 true).1 = 0 then
      if (clearF img (msetF img l at_ gb (lst (mbits img l at_) gb.toNat).1 true).2 (ownL (placeOf 9 gw gi gb (lst (mbits img l at_) gb.toNat).1))).1 = 0 then
        ((lst (mbits img l at_) gb.toNat).1, 0, (clearF img (msetF img l at_ gb (lst (mbits img l at_) gb.toNat).1 true).2 (ownL (placeOf 9 gw gi gb (lst (mbits img l at_) gb.toNat).1))).2)
      else (0, clearF img (msetF img l at_ gb (lst (mbits img l at_) gb.toNat).1 true).2 (ownL (placeOf 9 gw gi gb (lst (mbits img l at_) gb.toNat).1)))
    else (0, (msetF img l at_ gb (lst (mbits img l at_) gb.toNat).1 true).1, (msetF img l at_ gb (lst (mbits img l at_) gb.toNat).1 true).2)
  else (0, 7, l)
def giveF (img : List Int) (l : List (Int × Int)) (at_ many n_ : Int) : Int × List (Int × Int) :=
  if 1 ≤ n_ ∧ n_ < many then (if mbits img l at_ n_.toNat = true then msetF img l at_ many n_ false else (3, l)) else (1, l)
theorem VI.takeI (h : VI img l) : VI img (takeIF img l at_ many).2.2 := by
  unfold takeIF
  split
  · split <;> exact h.mset
  · exact h
theorem VI.takeB {gw gi gb : Int} (h : VI img l) : VI img (takeBF img l gw gi gb at_).2.2 := by
  unfold takeBF
  split
  · split
    · split <;> exact VI.clear h.mset
    · exact h.mset
  · exact h
theorem VI.give {n_ : Int} (h : VI img l) : VI img (giveF img l at_ many n_).2 := by
  unfold giveF
  split
  · split
    · exact h.mset
    · exact h
  · exact h
theorem place9 (gw gi gb n : Int) : -1 ≤ placeOf 9 gw gi gb n ∧ placeOf 9 gw gi gb n ≤ 7000 := by
  unfold placeOf
  split
  · rename_i h
    have h_ := may_out h
    simp only
    split <;> omega
  · omega

theorem atakei_ok (hv : VR img l) (ha : 0 ≤ at_ ∧ at_ ≤ 1000000000000) (hm : 1 ≤ many ∧ many ≤ 1000000000000) : atakei_M img l many at_ = some (takeIF img l at_ many) := by
  unfold atakei_M atake0_M
  have key : ((mclear_M img l at_ many).bind fun r6 => if r6.2 = true then ((mset_M img l at_ many r6.1 true).bind fun r15 => if r15.1 = 0 then (atake0_J1 r6 r15) else (atake0_J1 r6 r15)) else (some (0, 7, l))) = some (takeIF img l at_ many) := by
    refine bind_of (mclear_ok hv ha hm) ?_
    unfold takeIF
    split
    · refine bind_of (mset_ok hv ha hm.2) ?_
      rw [ite_self]
      unfold atake0_J1
      split <;> rfl
    · rfl
  exact bind_of key rfl
theorem rtakei_ok (hv : VR img l) (ha : 0 ≤ at_ ∧ at_ ≤ 1000000000000) (hm : 1 ≤ many ∧ many ≤ 1000000000000) : rtakei_M img l many at_ = some (takeIF img l at_ many) := by
  unfold rtakei_M
  refine bind_of (rmclear_ok hv ha (by omega)) ?_
  unfold takeIF
  split
  · refine bind_of (rmset_ok hv ha hm.2) ?_
    split <;> rfl
  · rfl
theorem atakeb_ok {gw gi gb : Int} (hv : VR img l) (ha : 0 ≤ at_ ∧ at_ ≤ 1000000000000) (hm : 1 ≤ gb ∧ gb ≤ 1000000000000) : atakeb_M img l gw gi gb at_ = some (takeBF img l gw gi gb at_) := by
  unfold atakeb_M atake1_M
  have key : ((mclear_M img l at_ gb).bind fun r6 => if r6.2 = true then ((mset_M img l at_ gb r6.1 true).bind fun r15 => if r15.1 = 0 then (atake1_J2 img gw gi gb r6 r15 true) else (atake1_J2 img gw gi gb r6 r15 false)) else (some (0, 7, l))) = some (takeBF img l gw gi gb at_) := by
    refine bind_of (mclear_ok hv ha hm) ?_
    unfold takeBF
    split
    · refine bind_of (mset_ok hv ha hm.2) ?_
      split
      · rename_i h0
        unfold atake1_J2
        rw [if_pos rfl]
        have hp := place9 gw gi gb (lst (mbits img l at_) gb.toNat).1
        refine need_of (by omega) (bind_of (aclear_ok _ (by simp)) ?_)
        unfold atake1_J1
        change (if (clearF _ _ (ownL _)).1 = 0 then _ else _) = _
        split <;> rfl
      · rename_i h0
        unfold atake1_J2
        rw [if_neg (by decide)]
        unfold atake1_J1
        rw [if_neg h0]
    · rfl
  exact bind_of key rfl
theorem rtakeb_ok {gw gi gb : Int} (hv : VR img l) (ha : 0 ≤ at_ ∧ at_ ≤ 1000000000000) (hm : 1 ≤ gb ∧ gb ≤ 1000000000000) : rtakeb_M img l gw gi gb at_ = some (takeBF img l gw gi gb at_) := by
  unfold rtakeb_M
  refine bind_of (rmclear_ok hv ha (by omega)) ?_
  unfold takeBF
  split
  · refine bind_of (rmset_ok hv ha hm.2) ?_
    generalize lst (mbits img l at_) gb.toNat = r
    generalize msetF img l at_ gb r.1 true = q
    have hp := place9 gw gi gb r.1
    generalize hpl : placeOf 9 gw gi gb r.1 = p at hp
    obtain ⟨res, hres⟩ : ∃ res : Int × List (Int × Int), res = if q.1 = 0 then clearF img q.2 (ownL p) else q := ⟨_, rfl⟩
    have hgoal : (if q.1 = 0 then (if (clearF img q.2 (ownL p)).1 = 0 then (r.1, (0 : Int), (clearF img q.2 (ownL p)).2) else (0, clearF img q.2 (ownL p))) else (0, q.1, q.2)) = if res.1 = 0 then (r.1, 0, res.2) else (0, res.1, res.2) := by
      rw [hres]
      by_cases h0 : q.1 = 0
      · rw [if_pos h0, if_pos h0]
      · rw [if_neg h0, if_neg h0, if_neg h0]
    rw [hgoal]
    have hlen : (ownL p).length = 8 := rfl
    refine iter_run (fun s => 0 ≤ s.2.2 ∧ s.2.2 ≤ 8 ∧ res = if s.2.1 = 0 then clearF img s.1 ((ownL p).drop s.2.2.toNat) else (s.2.1, s.1)) (fun s => (8 - s.2.2).toNat) ?_ _ _ ⟨by simp, by simp, by simpa using hres⟩ (fuel_lt (by simp only; omega))
    rintro k ⟨m, e, i⟩ ⟨h1, h2, h3⟩ ih
    simp only at h1 h2 h3 ih
    unfold rtakeb_B0
    simp only
    have j1 : (e = 0 → i = 8) → rtakeb_J1 r m e = some (if res.1 = 0 then (r.1, 0, res.2) else (0, res.1, res.2)) := by
      intro hq
      unfold rtakeb_J1
      by_cases h0 : e = 0
      · have hi := hq h0
        subst hi
        rw [if_pos h0] at h3
        have h4 : res = (0, m) := h3
        rw [if_pos h0, h4]
        rfl
      · rw [if_neg h0] at h3
        rw [if_neg h0, h3, if_neg h0]
    by_cases hi : i < 8
    · rw [if_pos hi]
      by_cases h0 : e = 0
      · rw [if_pos h0] at h3 ⊢
        have hg : (ownL p).drop i.toNat = (p + i) :: (ownL p).drop (i + 1).toNat := by
          have hlt : i.toNat < (ownL p).length := by rw [hlen]; omega
          rw [List.drop_eq_getElem_cons hlt, show (i + 1).toNat = i.toNat + 1 by omega]
          congr 1
          have : i = 0 ∨ i = 1 ∨ i = 2 ∨ i = 3 ∨ i = 4 ∨ i = 5 ∨ i = 6 ∨ i = 7 := by omega
          rcases this with rfl | rfl | rfl | rfl | rfl | rfl | rfl | rfl <;> rfl
        rw [hg, clearF] at h3
        rw [hpl]
        refine need_of (by omega) (bind_of rfl (need_of (by omega) (ih _ ⟨by simp only; omega, by simp only; omega, ?_⟩ (by simp only; omega))))
        simp only
        rw [h3]
      · rw [if_neg h0]
        exact j1 fun q => absurd q h0
    · rw [if_neg hi]
      exact j1 fun _ => by omega
  · rfl
theorem agive_ok {n_ : Int} (hv : VR img l) (ha : 0 ≤ at_ ∧ at_ ≤ 1000000000000) (hm : many ≤ 1000000000000) : pgive_M img l at_ many many n_ = some (giveF img l at_ many n_) := by
  have j1f : ∀ h : 1 ≤ n_ ∧ n_ < many, pgive_J1 img l at_ many n_ false = some (giveF img l at_ many n_) := by
    intro h
    unfold pgive_J1 giveF
    rw [if_neg (by decide), if_pos h]
    refine bind_of (mget_ok hv ha hm) ?_
    rw [decide_eq_true (by omega), Bool.true_and]
    split
    · exact bind_of (mset_ok hv ha hm) rfl
    · rfl
  have j1t : ∀ h : ¬ (1 ≤ n_ ∧ n_ < many), pgive_J1 img l at_ many n_ true = some (giveF img l at_ many n_) := by
    intro h
    unfold pgive_J1 giveF
    rw [if_pos rfl, if_neg h]
  unfold pgive_M
  by_cases h1 : n_ < 1
  · rw [if_pos h1, decide_eq_true h1]; exact j1t (by omega)
  · rw [if_neg h1]
    by_cases h2 : n_ ≥ many
    · rw [decide_eq_true h2]; exact j1t (by omega)
    · rw [decide_eq_false h2]; exact j1f (by omega)
theorem rgive_ok {n_ : Int} (hv : VR img l) (ha : 0 ≤ at_ ∧ at_ ≤ 1000000000000) (hm : many ≤ 1000000000000) : rgive_M img l at_ many n_ = some (giveF img l at_ many n_) := by
  unfold rgive_M giveF
  by_cases h1 : n_ < 1
  · rw [if_pos h1, if_neg (by omega)]
  · rw [if_neg h1]
    by_cases h2 : n_ ≥ many
    · rw [if_pos h2, if_neg (by omega)]
    · rw [if_neg h2, if_pos (by omega)]
      refine bind_of (rmget_ok hv ha hm) ?_
      rw [decide_eq_true (by omega), Bool.true_and]
      split
      · exact bind_of (rmset_ok hv ha hm) rfl
      · rfl
def freeF (img : List Int) (l : List (Int × Int)) (gi gb ia ba : Int) : Int × Int := (gi - (cnt (mbits img l ia) gi.toNat : Nat), gb - (cnt (mbits img l ba) gb.toNat : Nat))
theorem afree_ok {gi gb ia ba : Int} (hv : VR img l) (h1 : 0 ≤ ia ∧ ia ≤ 1000000000000) (h2 : 0 ≤ ba ∧ ba ≤ 1000000000000) (h3 : 1 ≤ gi ∧ gi ≤ 1000000000000) (h4 : 1 ≤ gb ∧ gb ≤ 1000000000000) : afree_M img l gi gb ia ba = some (freeF img l gi gb ia ba) := by
  have c1 := cnt_le (mbits img l ia) gi.toNat
  have c2 := cnt_le (mbits img l ba) gb.toNat
  have k1 : pfree_M img l ia gi gi = some (gi - (cnt (mbits img l ia) gi.toNat : Nat)) := by
    unfold pfree_M
    exact bind_of (mcount_ok hv h1 h3) (need_of (by omega) rfl)
  have k2 : pfree_M img l ba gb gb = some (gb - (cnt (mbits img l ba) gb.toNat : Nat)) := by
    unfold pfree_M
    exact bind_of (mcount_ok hv h2 h4) (need_of (by omega) rfl)
  unfold afree_M
  exact bind_of k1 (bind_of k2 rfl)
theorem rfree_ok {gi gb ia ba : Int} (hv : VR img l) (h1 : 0 ≤ ia ∧ ia ≤ 1000000000000) (h2 : 0 ≤ ba ∧ ba ≤ 1000000000000) (h3 : 1 ≤ gi ∧ gi ≤ 1000000000000) (h4 : 1 ≤ gb ∧ gb ≤ 1000000000000) : rfree_M img l gi gb ia ba = some (freeF img l gi gb ia ba) := by
  have c1 := cnt_le (mbits img l ia) gi.toNat
  have c2 := cnt_le (mbits img l ba) gb.toNat
  unfold rfree_M
  exact bind_of (rmcount_ok hv h1 (by omega)) (need_of (by omega) (bind_of (rmcount_ok hv h2 (by omega)) (need_of (by omega) rfl)))
end
theorem fmtW_u64 {gw gi gb : Int} : ∀ x ∈ fmtW gw gi gb, U64 x := by
  intro x hx
  unfold fmtW at hx
  split at hx
  · rename_i hm
    have hm_ := may_out hm
    unfold U64
    rcases List.mem_or_eq_of_mem_set hx with hx | rfl
    · rcases List.mem_or_eq_of_mem_set hx with hx | rfl
      · rcases List.mem_or_eq_of_mem_set hx with hx | rfl
        · rcases List.mem_or_eq_of_mem_set hx with hx | rfl
          · rcases List.mem_or_eq_of_mem_set hx with hx | rfl
            · rcases List.mem_or_eq_of_mem_set hx with hx | rfl
              · rcases List.mem_or_eq_of_mem_set hx with hx | rfl
                · rcases List.mem_or_eq_of_mem_set hx with hx | rfl
                  · have := List.eq_of_mem_replicate hx
                    omega
                  · omega
                · omega
              · omega
            · omega
          · omega
        · omega
      · omega
    · omega
  · simp at hx
end Go.Proofs.YthimamnblklkbaaDoor

/- The words of a new device, one by one. -/
namespace Go.Proofs.YthimamnblklkbaaDoor
open Go Go.RowKit
set_option linter.unusedVariables false

theorem getD_set {α : Type} {l : List α} {i k : Nat} {x d : α} (hi : i < l.length) : (l.set i x).getD k d = if k = i then x else l.getD k d := by
  rw [List.getD_eq_getElem?_getD, List.getD_eq_getElem?_getD, List.getElem?_set]
  by_cases h : i = k
  · subst h
    rw [if_pos rfl, if_pos rfl, if_pos hi]; rfl
  · rw [if_neg h, if_neg (fun e => h e.symm)]
theorem fmt_get {gw gi gb : Int} (hm : May gw gi gb) {k : Nat} (hk : (k : Int) < wordsOf gw gi gb) :
    (fmtW gw gi gb).getD k 0 = if (k : Int) = 297 + 208 * gw then 1 else if (k : Int) = 296 + 208 * gw then 2 else if (k : Int) = 272 + 208 * gw then 1 else if (k : Int) = 264 + 208 * gw then 3 else
      if k = 3 then gb else if k = 2 then gi else if k = 1 then gw else if k = 0 then 32762617960297063 else 0 := by
  have hm_ := may_out hm
  have hw := words_may hm
  have p6 := place6 hm
  have p7 := place7 hm
  have p8 := place8_in (n := 1) hm (by omega)
  have hl : (List.replicate (wordsOf gw gi gb).toNat (0 : Int)).length = (wordsOf gw gi gb).toNat := List.length_replicate
  unfold fmtW
  rw [if_pos hm, getD_set (by simp only [List.length_set, hl]; omega), getD_set (by simp only [List.length_set, hl]; omega), getD_set (by simp only [List.length_set, hl]; omega), getD_set (by simp only [List.length_set, hl]; omega),
    getD_set (by simp only [List.length_set, hl]; omega), getD_set (by simp only [List.length_set, hl]; omega), getD_set (by simp only [List.length_set, hl]; omega), getD_set (by simp only [hl]; omega)]
  have e0 : (List.replicate (wordsOf gw gi gb).toNat (0 : Int)).getD k 0 = 0 := by
    rw [List.getD_eq_getElem?_getD, List.getElem?_replicate]
    split <;> rfl
  rw [e0, p6, p7, p8]
  have c1 : (k = (280 + 208 * gw + 16 * 1 + 1).toNat) ↔ ((k : Int) = 297 + 208 * gw) := by omega
  have c2 : (k = (280 + 208 * gw + 16 * 1).toNat) ↔ ((k : Int) = 296 + 208 * gw) := by omega
  have c3 : (k = (272 + 208 * gw).toNat) ↔ ((k : Int) = 272 + 208 * gw) := by omega
  have c4 : (k = (264 + 208 * gw).toNat) ↔ ((k : Int) = 264 + 208 * gw) := by omega
  simp only [c1, c2, c3, c4]
theorem fmt_vget {gw gi gb : Int} (hm : May gw gi gb) {k : Int} (hk : 0 ≤ k ∧ k < wordsOf gw gi gb) :
    vget (fmtW gw gi gb) [] k = if k = 297 + 208 * gw then 1 else if k = 296 + 208 * gw then 2 else if k = 272 + 208 * gw then 1 else if k = 264 + 208 * gw then 3 else
      if k = 3 then gb else if k = 2 then gi else if k = 1 then gw else if k = 0 then 32762617960297063 else 0 := by
  obtain ⟨n, rfl⟩ := Int.eq_ofNat_of_zero_le hk.1
  have hl := fmtW_len gw gi gb
  have h := fmt_get hm (k := n) hk.2
  rw [vget_nil (by omega), h]
  have e3 : ((n : Int) = 3) ↔ (n = 3) := by omega
  have e2 : ((n : Int) = 2) ↔ (n = 2) := by omega
  have e1 : ((n : Int) = 1) ↔ (n = 1) := by omega
  have e0 : ((n : Int) = 0) ↔ (n = 0) := by omega
  simp only [e3, e2, e1, e0]
theorem fmt_ibits {gw gi gb : Int} (hm : May gw gi gb) {i : Nat} (hi : i < 64) : mbits (fmtW gw gi gb) [] (264 + 208 * gw) i = decide (i < 2) := by
  have hm_ := may_out hm
  have hw := words_may hm
  unfold mbits
  rw [show i / 64 = 0 by omega, show i % 64 = i by omega, fmt_vget hm (by omega), if_neg (by omega), if_neg (by omega), if_neg (by omega), if_pos (by omega)]
  have h : ∀ j : Fin 64, bitI 3 j.val = decide (j.val < 2) := by decide +kernel
  exact h ⟨i, hi⟩
theorem fmt_bbits {gw gi gb : Int} (hm : May gw gi gb) {i : Nat} (hi : i < 512) : mbits (fmtW gw gi gb) [] (272 + 208 * gw) i = decide (i = 0) := by
  have hm_ := may_out hm
  have hw := words_may hm
  unfold mbits
  by_cases h0 : i / 64 = 0
  · rw [h0, show i % 64 = i by omega, fmt_vget hm (by omega), if_neg (by omega), if_neg (by omega), if_pos (by omega)]
    have h : ∀ j : Fin 64, bitI 1 j.val = decide (j.val = 0) := by decide +kernel
    exact h ⟨i, by omega⟩
  · rw [fmt_vget hm (by omega), if_neg (by omega), if_neg (by omega), if_neg (by omega), if_neg (by omega), if_neg (by omega), if_neg (by omega), if_neg (by omega), if_neg (by omega), bitI_zero, decide_eq_false (by omega)]
theorem cnt_dec (m : Nat) : ∀ n, cnt (fun i => decide (i < m)) n = min m n
  | 0 => by simp [cnt]
  | n + 1 => by
    rw [cnt, cnt_dec m n]
    by_cases h : n < m
    · rw [if_pos (by simpa using h)]; omega
    · rw [if_neg (by simpa using h)]; omega
end Go.Proofs.YthimamnblklkbaaDoor

/- A device of one worker: what it is behind a taking, a giving. -/
namespace Go.Proofs.YthimamnblklkbaaDoor
open Go Go.RowKit
set_option linter.unusedVariables false

theorem vget_out {img : List Int} {l : List (Int × Int)} {k : Int} (h : ¬ (0 ≤ k ∧ k < img.length)) : vget img l k = 0 := by
  unfold vget; rw [if_neg h]
theorem vget_flat {img : List Int} {l : List (Int × Int)} (hok : VOk img l) (k : Int) : vget (vflat img l) [] k = vget img l k := by
  have hl := vflat_length img l
  by_cases h : 0 ≤ k ∧ k < img.length
  · obtain ⟨n, rfl⟩ := Int.eq_ofNat_of_zero_le h.1
    rw [vget_nil (by omega), vflat_get hok (by omega)]
  · rw [vget_out h, vget_out (by rw [hl]; exact h)]
theorem mbits_flat {img : List Int} {l : List (Int × Int)} (hok : VOk img l) (at_ : Int) : mbits (vflat img l) [] at_ = mbits img l at_ := by
  funext j
  unfold mbits
  rw [vget_flat hok]
theorem u64_flat {img : List Int} {l : List (Int × Int)} (hok : VOk img l) (hv : VR img l) : ∀ x ∈ vflat img l, U64 x := by
  intro x hx
  obtain ⟨k, hk, rfl⟩ := List.getElem_of_mem hx
  have hl := vflat_length img l
  have e := vflat_get hok (k := k) (by omega)
  rw [List.getD_eq_getElem?_getD, List.getElem?_eq_getElem hk] at e
  simp only [Option.getD_some] at e
  rw [e]
  exact hv _
theorem getD_u64 {ws : List Int} (h : ∀ x ∈ ws, U64 x) (k : Nat) : U64 (ws.getD k 0) := by
  rw [List.getD_eq_getElem?_getD]
  rcases Nat.lt_or_ge k ws.length with hk | hk
  · rw [List.getElem?_eq_getElem hk]; exact h _ (List.getElem_mem hk)
  · rw [List.getElem?_eq_none hk]; exact u64_zero
theorem clear_ok {img : List Int} : ∀ {ns : List Int} {l : List (Int × Int)}, VOk img l → VR img l → (∀ n ∈ ns, 0 ≤ n ∧ n < (img.length : Int)) → l.length + ns.length ≤ 96 →
    ∃ l', clearF img l ns = (0, l') ∧ VOk img l' ∧ VR img l' ∧ l'.length ≤ l.length + ns.length ∧ ∀ k, vget img l' k = if k ∈ ns then 0 else vget img l k
  | [], l, hok, hv, _, _ => ⟨l, rfl, hok, hv, by simp, fun k => by simp⟩
  | n :: ns, l, hok, hv, hr, hl => by
    simp only [List.length_cons] at hl
    have hn := hr n (by simp)
    have hlen := vput_len img l n 0
    unfold clearF
    rw [vput_in hn (by omega)] at hlen ⊢
    simp only at hlen ⊢
    obtain ⟨l', h1, h2, h3, h4, h5⟩ := clear_ok (ns := ns) (l := vset l n 0) (hok.put hn (.inr (by omega))) (hv.put hn u64_zero) (fun m hm => hr m (by simp [hm])) (by omega)
    refine ⟨l', by rw [if_pos trivial]; exact h1, h2, h3, by simp only [List.length_cons]; omega, fun k => ?_⟩
    rw [h5, vget_vset hn]
    by_cases e : k = n
    · subst e; simp
    · simp [e]
theorem mem_own {p k : Int} : k ∈ ownL p ↔ p ≤ k ∧ k < p + 8 := by
  unfold ownL
  simp only [List.mem_cons, List.not_mem_nil, or_false]
  omega

/-- a device's words, its inodes' bits, its blocks' bits. -/
structure Gd (gi gb : Int) (ws : List Int) (fi fb : Nat → Bool) : Prop where
  may : May 1 gi gb
  len : (ws.length : Int) = wordsOf 1 gi gb
  u64 : ∀ x ∈ ws, U64 x
  ib : ∀ j, j < gi.toNat → mbits ws [] 472 j = fi j
  bb : ∀ j, j < gb.toNat → mbits ws [] 480 j = fb j
section
variable {gi gb : Int} {ws : List Int} {fi fb : Nat → Bool}
theorem Gd.ok (h : Gd gi gb ws fi fb) : VOk ws [] ∧ VR ws [] ∧ (ws.length : Int) = 488 + 16 * gi + 8 * gb ∧ ws.length ≤ 6232 := by
  have hm_ := may_out h.may
  have hw := words_may h.may
  have hl := h.len
  exact ⟨VOk.nil (by omega), VR.nil h.u64, by omega, by omega⟩
theorem Gd.fmt (hm : May 1 gi gb) : Gd gi gb (fmtW 1 gi gb) (fun j => decide (j < 2)) (fun j => decide (j = 0)) := by
  have hm_ := may_out hm
  have hl := fmtW_len 1 gi gb
  have hw := words_may hm
  exact ⟨hm, by omega, fmtW_u64, fun j hj => fmt_ibits hm (by omega), fun j hj => fmt_bbits hm (by omega)⟩
theorem Gd.flat (h : Gd gi gb ws fi fb) {l : List (Int × Int)} (hok : VOk ws l) (hv : VR ws l) {fi' fb' : Nat → Bool} (h1 : ∀ j, j < gi.toNat → mbits ws l 472 j = fi' j) (h2 : ∀ j, j < gb.toNat → mbits ws l 480 j = fb' j) : Gd gi gb (vflat ws l) fi' fb' :=
  ⟨h.may, by rw [vflat_length]; exact h.len, u64_flat hok hv, fun j hj => by rw [mbits_flat hok]; exact h1 j hj, fun j hj => by rw [mbits_flat hok]; exact h2 j hj⟩
theorem Gd.lstB (h : Gd gi gb ws fi fb) : lst (mbits ws [] 480) gb.toNat = lst fb gb.toNat := by
  rcases lst_cases fb gb.toNat with ⟨i, h1, h2, h3, h4⟩ | ⟨h1, h4⟩
  · rw [h4, lst_at h1 ((h.bb i h1).trans h2) (fun j hj => (h.bb j (by omega)).trans (h3 j hj))]
  · rw [h4, lst_full fun j hj => (h.bb j hj).trans (h1 j hj)]
theorem Gd.lstI (h : Gd gi gb ws fi fb) : lst (mbits ws [] 472) gi.toNat = lst fi gi.toNat := by
  rcases lst_cases fi gi.toNat with ⟨i, h1, h2, h3, h4⟩ | ⟨h1, h4⟩
  · rw [h4, lst_at h1 ((h.ib i h1).trans h2) (fun j hj => (h.ib j (by omega)).trans (h3 j hj))]
  · rw [h4, lst_full fun j hj => (h.ib j hj).trans (h1 j hj)]
/-- a bit of a map set, in a view without writes. -/
theorem Gd.setB (h : Gd gi gb ws fi fb) {n : Int} {b : Bool} (hn : 0 ≤ n ∧ n < gb) :
    ∃ l, msetF ws [] 480 gb n b = (0, l) ∧ VOk ws l ∧ VR ws l ∧ l.length ≤ 1 ∧ (∀ k, ¬ (480 ≤ k ∧ k < 488) → vget ws l k = vget ws [] k) ∧ (∀ j, mbits ws l 480 j = if j = n.toNat then b else mbits ws [] 480 j) ∧ (∀ j, j < 64 → mbits ws l 472 j = mbits ws [] 472 j) := by
  obtain ⟨ho, hv, hl, hl2⟩ := h.ok
  have hm_ := may_out h.may
  obtain ⟨l, h1, h2, h3, h4, _, h6, h7⟩ := mset_in (is_ := b) (at_ := 480) (i_ := n) (many := gb) hv ho (by omega) (by omega) (by simp)
  refine ⟨l, h1, h3, h2, by simpa using h4, fun k hk => ?_, h7, fun j hj => ?_⟩
  · rw [h6, if_neg (by omega)]
  · unfold mbits
    rw [h6, if_neg (by omega)]
theorem Gd.setI (h : Gd gi gb ws fi fb) {n : Int} {b : Bool} (hn : 0 ≤ n ∧ n < gi) :
    ∃ l, msetF ws [] 472 gi n b = (0, l) ∧ VOk ws l ∧ VR ws l ∧ l.length ≤ 1 ∧ (∀ k, ¬ (472 ≤ k ∧ k < 480) → vget ws l k = vget ws [] k) ∧ (∀ j, mbits ws l 472 j = if j = n.toNat then b else mbits ws [] 472 j) ∧ (∀ j, j < 512 → mbits ws l 480 j = mbits ws [] 480 j) := by
  obtain ⟨ho, hv, hl, hl2⟩ := h.ok
  have hm_ := may_out h.may
  obtain ⟨l, h1, h2, h3, h4, _, h6, h7⟩ := mset_in (is_ := b) (at_ := 472) (i_ := n) (many := gi) hv ho (by omega) (by omega) (by simp)
  refine ⟨l, h1, h3, h2, by simpa using h4, fun k hk => ?_, h7, fun j hj => ?_⟩
  · rw [h6, if_neg (by omega)]
  · unfold mbits
    rw [h6, if_neg (by omega)]
theorem place9_in {n : Int} (hm : May 1 gi gb) (hn : 0 ≤ n ∧ n < gb) : placeOf 9 1 gi gb n = 488 + 16 * gi + 8 * n := by
  unfold placeOf
  rw [if_pos hm]
  simp only [hn, and_self, if_true]
  omega
theorem Gd.takeB (h : Gd gi gb ws fi fb) :
    (∃ i l, i < gb.toNat ∧ fb i = false ∧ (∀ j, j < i → fb j = true) ∧ takeBF ws [] 1 gi gb 480 = ((i : Int), 0, l) ∧ VOk ws l ∧ VR ws l ∧ l.length ≤ 9 ∧ (∀ k, 488 + 16 * gi + 8 * (i : Int) ≤ k ∧ k < 488 + 16 * gi + 8 * (i : Int) + 8 → vget ws l k = 0) ∧
      (∀ k, ¬ (480 ≤ k ∧ k < 488) → ¬ (488 + 16 * gi + 8 * (i : Int) ≤ k ∧ k < 488 + 16 * gi + 8 * (i : Int) + 8) → vget ws l k = vget ws [] k) ∧ Gd gi gb (vflat ws l) fi (fun j => if j = i then true else fb j)) ∨
    ((∀ j, j < gb.toNat → fb j = true) ∧ takeBF ws [] 1 gi gb 480 = (0, 7, [])) := by
  obtain ⟨ho, hv, hl, hl2⟩ := h.ok
  have hm_ := may_out h.may
  rcases lst_cases fb gb.toNat with ⟨i, h1, h2, h3, h4⟩ | ⟨h1, h4⟩
  · refine .inl ?_
    obtain ⟨l, a1, a2, a3, a4, a5, a6, a7⟩ := h.setB (n := (i : Int)) (b := true) (by omega)
    have hp := place9_in (n := (i : Int)) h.may (by omega)
    obtain ⟨l', c1, c2, c3, c4, c5⟩ := clear_ok (ns := ownL (488 + 16 * gi + 8 * (i : Int))) a2 a3 (fun n hn => by rw [mem_own] at hn; omega) (by rw [show (ownL (488 + 16 * gi + 8 * (i : Int))).length = 8 from rfl]; omega)
    have c5' : ∀ k, vget ws l' k = if 488 + 16 * gi + 8 * (i : Int) ≤ k ∧ k < 488 + 16 * gi + 8 * (i : Int) + 8 then 0 else vget ws l k := fun k => by rw [c5]; simp only [mem_own]
    rw [show (ownL (488 + 16 * gi + 8 * (i : Int))).length = 8 from rfl] at c4
    refine ⟨i, l', h1, h2, h3, ?_, c2, c3, by omega, fun k hk => by rw [c5', if_pos hk], fun k hk1 hk2 => by rw [c5', if_neg hk2, a5 k hk1], ?_⟩
    · unfold takeBF
      rw [h.lstB, h4]
      simp only
      rw [if_pos trivial, a1, if_pos rfl, hp]
      simp only
      rw [c1, if_pos rfl]
    · refine h.flat c2 c3 (fun j hj => ?_) fun j hj => ?_
      · rw [← h.ib j hj, ← a7 j (by omega)]
        unfold mbits
        rw [c5', if_neg (by omega)]
      · rw [← h.bb j hj]
        have e := a6 j
        rw [Int.toNat_natCast] at e
        rw [← e]
        unfold mbits
        rw [c5', if_neg (by omega)]
  · refine .inr ⟨h1, ?_⟩
    unfold takeBF
    rw [h.lstB, h4]
    rfl
theorem Gd.takeI (h : Gd gi gb ws fi fb) :
    (∃ i l, i < gi.toNat ∧ fi i = false ∧ (∀ j, j < i → fi j = true) ∧ takeIF ws [] 472 gi = ((i : Int), 0, l) ∧ VOk ws l ∧ VR ws l ∧ l.length ≤ 9 ∧ Gd gi gb (vflat ws l) (fun j => if j = i then true else fi j) fb) ∨
    ((∀ j, j < gi.toNat → fi j = true) ∧ takeIF ws [] 472 gi = (0, 7, [])) := by
  obtain ⟨ho, hv, hl, hl2⟩ := h.ok
  have hm_ := may_out h.may
  rcases lst_cases fi gi.toNat with ⟨i, h1, h2, h3, h4⟩ | ⟨h1, h4⟩
  · refine .inl ?_
    obtain ⟨l, a1, a2, a3, a4, a5, a6, a7⟩ := h.setI (n := (i : Int)) (b := true) (by omega)
    refine ⟨i, l, h1, h2, h3, ?_, a2, a3, by omega, ?_⟩
    · unfold takeIF
      rw [h.lstI, h4]
      simp only
      rw [if_pos trivial, a1, if_pos rfl]
    · refine h.flat a2 a3 (fun j hj => ?_) fun j hj => ?_
      · have e := a6 j
        rw [Int.toNat_natCast, h.ib j hj] at e
        exact e
      · rw [a7 j (by omega), h.bb j hj]
  · refine .inr ⟨h1, ?_⟩
    unfold takeIF
    rw [h.lstI, h4]
    rfl
theorem Gd.giveB (h : Gd gi gb ws fi fb) {n : Int} : ∃ e l, giveF ws [] 480 gb n = (e, l) ∧ VOk ws l ∧ VR ws l ∧ l.length ≤ 1 ∧ (e = 0 ↔ (1 ≤ n ∧ n < gb) ∧ fb n.toNat = true) ∧ (1 ≤ n ∧ n < gb → e = 0 ∨ e = 3) ∧
    (∀ k, ¬ (480 ≤ k ∧ k < 488) → vget ws l k = vget ws [] k) ∧ Gd gi gb (vflat ws l) fi (fun j => if e = 0 ∧ j = n.toNat then false else fb j) := by
  obtain ⟨ho, hv, hl, hl2⟩ := h.ok
  have hm_ := may_out h.may
  have hno : ∀ e : Int, ¬ e = 0 → Gd gi gb (vflat ws []) fi (fun j => if e = 0 ∧ j = n.toNat then false else fb j) := fun e he =>
    h.flat ho hv (fun j hj => h.ib j hj) fun j hj => by rw [if_neg (fun q => he q.1)]; exact h.bb j hj
  by_cases hr : 1 ≤ n ∧ n < gb
  · cases hb : fb n.toNat with
    | true =>
      obtain ⟨l, a1, a2, a3, a4, a5, a6, a7⟩ := h.setB (n := n) (b := false) (by omega)
      refine ⟨0, l, ?_, a2, a3, a4, ⟨fun _ => ⟨hr, rfl⟩, fun _ => rfl⟩, fun _ => .inl rfl, a5, ?_⟩
      · unfold giveF
        rw [if_pos hr, h.bb _ (by omega), hb, if_pos rfl, a1]
      · refine h.flat a2 a3 (fun j hj => by rw [a7 j (by omega), h.ib j hj]) fun j hj => ?_
        rw [a6, h.bb j hj]
        simp only [true_and]
    | false =>
      refine ⟨3, [], ?_, ho, hv, by simp, ⟨fun q => absurd q (by decide), fun q => by cases q.2⟩, fun _ => .inr rfl, fun _ _ => rfl, hno 3 (by decide)⟩
      unfold giveF
      rw [if_pos hr, h.bb _ (by omega), hb, if_neg (by decide)]
  · refine ⟨1, [], ?_, ho, hv, by simp, ⟨fun q => absurd q (by decide), fun q => absurd q.1 hr⟩, fun q => absurd q hr, fun _ _ => rfl, hno 1 (by decide)⟩
    unfold giveF
    rw [if_neg hr]
theorem Gd.giveI (h : Gd gi gb ws fi fb) {n : Int} : ∃ e l, giveF ws [] 472 gi n = (e, l) ∧ VOk ws l ∧ VR ws l ∧ l.length ≤ 1 ∧ (e = 0 ↔ (1 ≤ n ∧ n < gi) ∧ fi n.toNat = true) ∧
    Gd gi gb (vflat ws l) (fun j => if e = 0 ∧ j = n.toNat then false else fi j) fb := by
  obtain ⟨ho, hv, hl, hl2⟩ := h.ok
  have hm_ := may_out h.may
  have hno : ∀ e : Int, ¬ e = 0 → Gd gi gb (vflat ws []) (fun j => if e = 0 ∧ j = n.toNat then false else fi j) fb := fun e he =>
    h.flat ho hv (fun j hj => by rw [if_neg (fun q => he q.1)]; exact h.ib j hj) fun j hj => h.bb j hj
  by_cases hr : 1 ≤ n ∧ n < gi
  · cases hb : fi n.toNat with
    | true =>
      obtain ⟨l, a1, a2, a3, a4, a5, a6, a7⟩ := h.setI (n := n) (b := false) (by omega)
      refine ⟨0, l, ?_, a2, a3, a4, ⟨fun _ => ⟨hr, rfl⟩, fun _ => rfl⟩, ?_⟩
      · unfold giveF
        rw [if_pos hr, h.ib _ (by omega), hb, if_pos rfl, a1]
      · refine h.flat a2 a3 (fun j hj => ?_) fun j hj => by rw [a7 j (by omega), h.bb j hj]
        rw [a6, h.ib j hj]
        simp only [true_and]
    | false =>
      refine ⟨3, [], ?_, ho, hv, by simp, ⟨fun q => absurd q (by decide), fun q => by cases q.2⟩, hno 3 (by decide)⟩
      unfold giveF
      rw [if_pos hr, h.ib _ (by omega), hb, if_neg (by decide)]
  · refine ⟨1, [], ?_, ho, hv, by simp, ⟨fun q => absurd q (by decide), fun q => absurd q.1 hr⟩, hno 1 (by decide)⟩
    unfold giveF
    rw [if_neg hr]
theorem Gd.free (h : Gd gi gb ws fi fb) {l : List (Int × Int)} (hok : VOk ws l) {fi' fb' : Nat → Bool} (h' : Gd gi gb (vflat ws l) fi' fb') : freeF ws l gi gb 472 480 = (gi - (cnt fi' gi.toNat : Nat), gb - (cnt fb' gb.toNat : Nat)) := by
  have e1 : cnt (mbits ws l 472) gi.toNat = cnt fi' gi.toNat := cnt_congr fun j hj => by rw [← mbits_flat hok]; exact h'.ib j hj
  have e2 : cnt (mbits ws l 480) gb.toNat = cnt fb' gb.toNat := cnt_congr fun j hj => by rw [← mbits_flat hok]; exact h'.bb j hj
  unfold freeF
  rw [e1, e2]
/-- bits told otherwise. -/
theorem Gd.congr (h : Gd gi gb ws fi fb) {fi' fb' : Nat → Bool} (h1 : ∀ j, j < gi.toNat → fi j = fi' j) (h2 : ∀ j, j < gb.toNat → fb j = fb' j) : Gd gi gb ws fi' fb' :=
  ⟨h.may, h.len, h.u64, fun j hj => (h.ib j hj).trans (h1 j hj), fun j hj => (h.bb j hj).trans (h2 j hj)⟩
end
end Go.Proofs.YthimamnblklkbaaDoor
