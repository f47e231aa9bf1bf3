/- What the code computes, by a program. -/
import Derived.Test.YthimamnblklkbaaDoorBt
namespace Go.Proofs.YthimamnblklkbaaDoor
open Go Go.RowKit
set_option linter.unusedSimpArgs false
set_option linter.unusedVariables false

def mhas_M (many : Int) (i_ : Int) : Option (Bool) :=
  if i_ ≥ 0 then (some (decide (i_ < many))) else (some false)

set_option maxRecDepth 20000 in
set_option linter.unusedVariables false in
theorem mhas_walk {img : List Int} {l : List (Int × Int)} {at_ : Int} {many : Int} {i_ : Int} {mb vb : Nat} {r : Bool} (B : Nat) (w : World) (hmb : w.heap[mb]? = some (.cells [(.pointer (some ⟨vb, 0, none⟩)), (.int .i64 at_), (.int .i64 many)].toArray 151 (0, 0))) (hv : ViewAt (ptr vb) img l w) (hm : mhas_M many i_ = some r) : Spec Tryd.prog 93 #[(.pointer (some ⟨mb, 0, none⟩)), (.int .i64 i_)] B w [] (fun v H' => v = .bool r ∧ H' = []) := by
  refine spec_Q Tryd.func93 rfl fun hs => ?_
  unfold mhas_M at hm
  refine W.seq fun K1 hK1 => ?_
  refine W.region ?_
  refine ops_run 1 (by kernel_rfl) ?_
  refine ops_done (by kernel_rfl) ?_
  refine hK1 _ _ ?_
  clear hK1
  refine W.seq fun K2 hK2 => ?_
  refine W.region ?_
  refine ops_run 7 (by kernel_rfl) ?_
  rcases Bool.eq_false_or_eq_true (decide (i_ ≥ 0)) with h3 | h3
  ·
    have h3p : i_ ≥ 0 := of_decide_eq_true h3
    replace hm := ite_yes hm h3p
    refine ops_set 11 (v := .bool true) (eq_bool_of (by kernel_rfl) h3) ?_
    refine ops_set 9 (v := .bool true) (eq_bool_of (by kernel_rfl) h3) ?_
    refine ops_set 10 (v := .bool true) (eq_bool_of (by kernel_rfl) h3) ?_
    refine ops_run 4 (by kernel_rfl) ?_
    refine ops_R (runs_load (ad := ⟨mb, 2, none⟩) (v := (.int .i64 many)) (by kernel_rfl) (cell_of_blk (hs.old hmb) rfl)) ?_
    refine ops_run 3 (by kernel_rfl) ?_
    refine ops_done (by kernel_rfl) ?_
    refine hK2 _ _ ?_
    clear hK2
    refine W.ret ?_
    obtain rfl := some_inj hm
    refine ret_of (.bool (decide (i_ < many))) (by kernel_rfl) ⟨_, ⟨rfl, rfl⟩, hs⟩
  ·
    have h3p : ¬ (i_ ≥ 0) := of_decide_eq_false h3
    replace hm := ite_no hm h3p
    refine ops_set 11 (v := .bool false) (eq_bool_of (by kernel_rfl) h3) ?_
    refine ops_set 9 (v := .bool false) (eq_bool_of (by kernel_rfl) h3) ?_
    refine ops_set 10 (v := .bool false) (eq_bool_of (by kernel_rfl) h3) ?_
    refine ops_run 8 (by kernel_rfl) ?_
    refine ops_done (by kernel_rfl) ?_
    refine hK2 _ _ ?_
    clear hK2
    refine W.ret ?_
    obtain rfl := some_inj hm
    refine ret_of (.bool false) (by kernel_rfl) ⟨_, ⟨rfl, rfl⟩, hs⟩

def mword_M (at_ : Int) (i_ : Int) : Option (Int × Int) :=
  need (-9223372036854775808 ≤ (i_.tdiv 64) ∧ (i_.tdiv 64) ≤ 9223372036854775807) <|
need (-9223372036854775808 ≤ (at_ + (i_.tdiv 64)) ∧ (at_ + (i_.tdiv 64)) ≤ 9223372036854775807) <|
need (0 ≤ i_.tmod 64) <|
some ((at_ + (i_.tdiv 64)), (shlK .u64 1 (i_.tmod 64)))

set_option maxRecDepth 20000 in
set_option linter.unusedVariables false in
theorem mword_walk {img : List Int} {l : List (Int × Int)} {at_ : Int} {many : Int} {i_ : Int} {mb vb : Nat} {r : Int × Int} (B : Nat) (w : World) (hmb : w.heap[mb]? = some (.cells [(.pointer (some ⟨vb, 0, none⟩)), (.int .i64 at_), (.int .i64 many)].toArray 151 (0, 0))) (hv : ViewAt (ptr vb) img l w) (hm : mword_M at_ i_ = some r) : Spec Tryd.prog 94 #[(.pointer (some ⟨mb, 0, none⟩)), (.int .i64 i_)] B w [] (fun v H' => v = .tuple #[.int .i64 r.1, .int .u64 r.2] ∧ H' = []) := by
  refine spec_Q Tryd.func94 rfl fun hs => ?_
  unfold mword_M at hm
  refine W.seq fun K1 hK1 => ?_
  refine W.region ?_
  refine ops_run 2 (by kernel_rfl) ?_
  refine ops_done (by kernel_rfl) ?_
  refine hK1 _ _ ?_
  clear hK1
  refine W.seq fun K2 hK2 => ?_
  have hs3 := hs.drew
  refine W.regionD [(0, 0), (1, 1), (2, 2), (4, 4), (0, 0), (16, 16), (40, 40), (0, 0), (128, 128), (256, 256), (127, 64), (2047, 512)] (fun w_ => St B w [] w_ []) (by kernel_rfl) hs3 ?_
  refine any_val (v := (.pointer (some ⟨mb, 0, none⟩))) (v' := (.pointer (some ⟨mb, 0, none⟩))) 0 (by kernel_rfl) (fun _ => by kernel_rfl) rfl hs3 ?_
  refine any_val (v := (.pointer (some ⟨mb, 0, none⟩))) (v' := (.pointer (some ⟨mb, 0, none⟩))) 1 (by kernel_rfl) (fun _ => by kernel_rfl) rfl hs3 ?_
  refine any_val (v := (.pointer (some ⟨mb, 1, none⟩))) (v' := (.pointer (some ⟨mb, 1, none⟩))) 2 (by kernel_rfl) (fun _ => by kernel_rfl) rfl hs3 ?_
  refine any_R 3 (by kernel_rfl) (fun _ hS_ => runs_load (ad := ⟨mb, 1, none⟩) (v := (.int .i64 at_)) (by kernel_rfl) (cell_of_blk (hS_.old hmb) rfl)) hs3 ?_
  refine any_val (v := (.int .i64 i_)) (v' := (.int .i64 i_)) 4 (by kernel_rfl) (fun _ => by kernel_rfl) rfl hs3 ?_
  obtain ⟨h4, hm⟩ := need_some hm
  refine any_R (v := .int .i64 (i_.tdiv 64)) 5 (by kernel_rfl) (fun _ hS_ => runs_quo (k := .i64) (a := i_) (b := 64) (by kernel_rfl) (by decide) (wrap_i64 h4.1 h4.2)) hs3 ?_
  obtain ⟨h5, hm⟩ := need_some hm
  refine any_val (v := .int .i64 (IntKind.i64.wrap (at_ + (i_.tdiv 64)))) (v' := .int .i64 (at_ + (i_.tdiv 64))) 6 (by kernel_rfl) (fun _ => by kernel_rfl) (congrArg (Value.int .i64) (wrap_i64 h5.1 h5.2)) hs3 ?_
  refine any_val (v := (.int .i64 i_)) (v' := (.int .i64 i_)) 7 (by kernel_rfl) (fun _ => by kernel_rfl) rfl hs3 ?_
  refine any_val (v := (.int .i64 (i_.tmod 64))) (v' := (.int .i64 (i_.tmod 64))) 8 (by kernel_rfl) (fun _ => by kernel_rfl) rfl hs3 ?_
  obtain ⟨h6, hm⟩ := need_some hm
  refine any_R (v := .int .u64 (shlK .u64 1 (i_.tmod 64))) 9 (by kernel_rfl) (fun _ hS_ => runs_shift (b := true) (k := .u64) (x := 1) (y := i_.tmod 64) (by kernel_rfl) h6) hs3 ?_
  refine any_val (v := (.int .i64 (at_ + (i_.tdiv 64)))) (v' := (.int .i64 (at_ + (i_.tdiv 64)))) 10 (by kernel_rfl) (fun _ => by kernel_rfl) rfl hs3 ?_
  refine any_val (v := (.int .u64 (shlK .u64 1 (i_.tmod 64)))) (v' := (.int .u64 (shlK .u64 1 (i_.tmod 64)))) 11 (by kernel_rfl) (fun _ => by kernel_rfl) rfl hs3 ?_
  refine any_done (by kernel_rfl) ?_
  refine hK2 _ _ ?_
  clear hK2
  refine W.ret ?_
  obtain rfl := some_inj hm
  refine ret_of (.tuple #[(.int .i64 (at_ + (i_.tdiv 64))), (.int .u64 (shlK .u64 1 (i_.tmod 64)))]) (by kernel_rfl) ⟨_, ⟨rfl, rfl⟩, hs3⟩

end Go.Proofs.YthimamnblklkbaaDoor
