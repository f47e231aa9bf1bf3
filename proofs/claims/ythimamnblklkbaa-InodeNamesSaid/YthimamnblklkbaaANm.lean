/- What the code computes, by a program. -/
import Derived.Test.YthimamnblklkbaaK12
namespace Go.Proofs.Ythimamnblklkbaa
open Go Go.RowKit
set_option linter.unusedSimpArgs false
set_option linter.unusedVariables false

def inodenames_M (i_ : Int) (b_ : Int) (n_ : Int) (x_ : Nd) : Option (Bool) :=
  need (0 ≤ i_ ∧ i_ ≤ 255) <|
need (0 ≤ b_ ∧ b_ ≤ 255) <|
need ((fmtW 1 (2 + i_ % 20) (2 + b_ % 60)).length ≤ 17592186044415) <|
need (-9223372036854775808 ≤ n_ ∧ n_ ≤ 9223372036854775807) <|
need (-9223372036854775808 ≤ ((2 + i_ % 20) - 1) ∧ ((2 + i_ % 20) - 1) ≤ 9223372036854775807) <|
need (¬ (((2 + i_ % 20) - 1) = 0)) <|
need (-9223372036854775808 ≤ (1 + (n_.tmod ((2 + i_ % 20) - 1))) ∧ (1 + (n_.tmod ((2 + i_ % 20) - 1))) ≤ 9223372036854775807) <|
(some (1 + (n_.tmod ((2 + i_ % 20) - 1)))).bind fun r33 =>
(some (placeOf 8 1 (2 + i_ % 20) (2 + b_ % 60) r33)).bind fun r36 =>
if r36 < 0 then (some false) else ((some (iputM (fmtW 1 (2 + i_ % 20) (2 + b_ % 60)) ([]) 1 (2 + i_ % 20) (2 + b_ % 60) r33 ⟨x_.k, x_.l, x_.o, x_.s, x_.a, x_.b, x_.c, x_.d, x_.e, x_.m⟩)).bind fun r50 =>
if r50.1 = 0 then (need (-9223372036854775808 ≤ (r36 + 4) ∧ (r36 + 4) ≤ 9223372036854775807) <|
need (-9223372036854775808 ≤ ((r36 + 4) + 0) ∧ ((r36 + 4) + 0) ≤ 9223372036854775807) <|
if (vget (fmtW 1 (2 + i_ % 20) (2 + b_ % 60)) r50.2 ((r36 + 4) + 0)) = x_.a then (need (-9223372036854775808 ≤ (r36 + 4) ∧ (r36 + 4) ≤ 9223372036854775807) <|
need (-9223372036854775808 ≤ ((r36 + 4) + 1) ∧ ((r36 + 4) + 1) ≤ 9223372036854775807) <|
if (vget (fmtW 1 (2 + i_ % 20) (2 + b_ % 60)) r50.2 ((r36 + 4) + 1)) = x_.b then (need (-9223372036854775808 ≤ (r36 + 4) ∧ (r36 + 4) ≤ 9223372036854775807) <|
need (-9223372036854775808 ≤ ((r36 + 4) + 2) ∧ ((r36 + 4) + 2) ≤ 9223372036854775807) <|
if (vget (fmtW 1 (2 + i_ % 20) (2 + b_ % 60)) r50.2 ((r36 + 4) + 2)) = x_.c then (need (-9223372036854775808 ≤ (r36 + 4) ∧ (r36 + 4) ≤ 9223372036854775807) <|
need (-9223372036854775808 ≤ ((r36 + 4) + 3) ∧ ((r36 + 4) + 3) ≤ 9223372036854775807) <|
if (vget (fmtW 1 (2 + i_ % 20) (2 + b_ % 60)) r50.2 ((r36 + 4) + 3)) = x_.d then (if (vget (fmtW 1 (2 + i_ % 20) (2 + b_ % 60)) r50.2 r36) = x_.k then (need (-9223372036854775808 ≤ (r36 + 1) ∧ (r36 + 1) ≤ 9223372036854775807) <|
if (vget (fmtW 1 (2 + i_ % 20) (2 + b_ % 60)) r50.2 (r36 + 1)) = x_.l then (need (-9223372036854775808 ≤ (r36 + 2) ∧ (r36 + 2) ≤ 9223372036854775807) <|
if (vget (fmtW 1 (2 + i_ % 20) (2 + b_ % 60)) r50.2 (r36 + 2)) = x_.o then (need (-9223372036854775808 ≤ (r36 + 3) ∧ (r36 + 3) ≤ 9223372036854775807) <|
if (vget (fmtW 1 (2 + i_ % 20) (2 + b_ % 60)) r50.2 (r36 + 3)) = x_.s then (need (-9223372036854775808 ≤ (r36 + 8) ∧ (r36 + 8) ≤ 9223372036854775807) <|
if (vget (fmtW 1 (2 + i_ % 20) (2 + b_ % 60)) r50.2 (r36 + 8)) = x_.e then (need (-9223372036854775808 ≤ (r36 + 9) ∧ (r36 + 9) ≤ 9223372036854775807) <|
if (vget (fmtW 1 (2 + i_ % 20) (2 + b_ % 60)) r50.2 (r36 + 9)) = x_.m then (some true) else (some false)) else (some false)) else (some false)) else (some false)) else (some false)) else (some false)) else (some false)) else (some false)) else (some false)) else (some false)) else (if RightP 1 (2 + i_ % 20) (2 + b_ % 60) ⟨x_.k, x_.l, x_.o, x_.s, x_.a, x_.b, x_.c, x_.d, x_.e, x_.m⟩ then (some false) else (some true)))

set_option maxRecDepth 20000 in
set_option maxHeartbeats 4000000 in
set_option linter.unusedVariables false in
theorem inodenames_walk {i_ : Int} {b_ : Int} {n_ : Int} {x_ : Nd}   (B : Nat) (w : World) (hB : w.heap.size = B) (hm : inodenames_M i_ b_ n_ x_ = some true) : Spec Try.prog 10 #[(.int .u8 i_), (.int .u8 b_), (.int .u8 n_), (.agg #[(.int .u64 x_.k), (.int .u64 x_.l), (.int .u64 x_.o), (.int .u64 x_.s), (.int .u64 x_.a), (.int .u64 x_.b), (.int .u64 x_.c), (.int .u64 x_.d), (.int .u64 x_.e), (.int .u64 x_.m)])] B w [] (fun v H' => v = .bool true ∧ H' = []) := by
  refine spec_Q Try.func10 rfl fun hs => ?_
  unfold inodenames_M at hm
  refine W.seq fun K1 hK1 => ?_
  refine W.region ?_
  refine ops_new (fun b => .pointer (some ⟨b, 0, none⟩)) (.cells [(.int .u64 x_.k), (.int .u64 x_.l), (.int .u64 x_.o), (.int .u64 x_.s), (.int .u64 x_.a), (.int .u64 x_.b), (.int .u64 x_.c), (.int .u64 x_.d), (.int .u64 x_.e), (.int .u64 x_.m)].toArray 54 (0, 0)) hs (by kernel_rfl) (fun b4 w2 hs3 => ?_)
  refine ops_run 1 (by kernel_rfl) ?_
  refine ops_done (by kernel_rfl) ?_
  refine hK1 _ _ ?_
  clear hK1
  refine W.seq fun K5 hK5 => ?_
  refine W.region ?_
  refine ops_run 2 (by kernel_rfl) ?_
  obtain ⟨h6, hm⟩ := need_some hm
  obtain ⟨h7, hm⟩ := need_some hm
  refine ops_call (pre := []) hs3 (by kernel_rfl) (small_spec (x_ := i_) (y_ := b_) (hx := h6) (hy := h7) B _) ?_
  rintro _ _ w8 ⟨rfl, rfl⟩ hs9
  have hs10 : St B w [] w8 [blk b4 (.cells [(.int .u64 x_.k), (.int .u64 x_.l), (.int .u64 x_.o), (.int .u64 x_.s), (.int .u64 x_.a), (.int .u64 x_.b), (.int .u64 x_.c), (.int .u64 x_.d), (.int .u64 x_.e), (.int .u64 x_.m)].toArray 54 (0, 0))] := hs9
  refine ops_new (fun b => .pointer (some ⟨b, 0, none⟩)) (.cells [(.int .i64 0), (.int .i64 0), (.int .i64 0)].toArray 56 (0, 0)) hs10 (by kernel_rfl) (fun b13 w11 hs12 => ?_)
  refine ops_store (off := 0) (cs := [(.int .i64 0), (.int .i64 0), (.int .i64 0)]) (vs := [(.int .i64 1), (.int .i64 (2 + i_ % 20)), (.int .i64 (2 + b_ % 60))]) hs12 (by kernel_rfl) (by simp) rfl (fun w14 hs15 => ?_)
  have hs16 : St B w [] w14 [blk b13 (.cells [(.int .i64 1), (.int .i64 (2 + i_ % 20)), (.int .i64 (2 + b_ % 60))].toArray 56 (0, 0)), blk b4 (.cells [(.int .u64 x_.k), (.int .u64 x_.l), (.int .u64 x_.o), (.int .u64 x_.s), (.int .u64 x_.a), (.int .u64 x_.b), (.int .u64 x_.c), (.int .u64 x_.d), (.int .u64 x_.e), (.int .u64 x_.m)].toArray 54 (0, 0))] := hs15
  refine ops_done (by kernel_rfl) ?_
  refine hK5 _ _ ?_
  clear hK5
  refine W.seq fun K17 hK17 => ?_
  refine W.region ?_
  refine ops_R (runs_loadAgg (ad := ⟨b13, 0, none⟩) (cs := [(.int .i64 1), (.int .i64 (2 + i_ % 20)), (.int .i64 (2 + b_ % 60))]) (by kernel_rfl) (cells_sub (hs16.heapAt 0 rfl) rfl)) ?_
  refine ops_call (pre := []) hs16 (by kernel_rfl) (format_spec (gw := 1) (gi := (2 + i_ % 20)) (gb := (2 + b_ % 60)) B _) ?_
  rintro _ _ w20 ⟨a18, c19, rfl, rfl⟩ hs21
  have hs22 : St B w [] w20 [kU64.row a18 c19 (fmtW 1 (2 + i_ % 20) (2 + b_ % 60)), blk b13 (.cells [(.int .i64 1), (.int .i64 (2 + i_ % 20)), (.int .i64 (2 + b_ % 60))].toArray 56 (0, 0)), blk b4 (.cells [(.int .u64 x_.k), (.int .u64 x_.l), (.int .u64 x_.o), (.int .u64 x_.s), (.int .u64 x_.a), (.int .u64 x_.b), (.int .u64 x_.c), (.int .u64 x_.d), (.int .u64 x_.e), (.int .u64 x_.m)].toArray 54 (0, 0))] := hs21
  obtain ⟨h24, hm⟩ := need_some hm
  refine ops_call (pre := []) hs22 (by kernel_rfl) (new_spec (hc := (St.kcells kU64 hs22 0 rfl)) (hn := (St.capnil kU64 hs22 0 rfl)) (hsz := h24) B _) ?_
  rintro _ _ w25 ⟨b23, rfl, rfl⟩ hs26
  have hs27 : St B w [] w25 [viewA (ptr b23) (fmtW 1 (2 + i_ % 20) (2 + b_ % 60)) ([]), kU64.row a18 c19 (fmtW 1 (2 + i_ % 20) (2 + b_ % 60)), blk b13 (.cells [(.int .i64 1), (.int .i64 (2 + i_ % 20)), (.int .i64 (2 + b_ % 60))].toArray 56 (0, 0)), blk b4 (.cells [(.int .u64 x_.k), (.int .u64 x_.l), (.int .u64 x_.o), (.int .u64 x_.s), (.int .u64 x_.a), (.int .u64 x_.b), (.int .u64 x_.c), (.int .u64 x_.d), (.int .u64 x_.e), (.int .u64 x_.m)].toArray 54 (0, 0))] := hs26
  refine ops_run 1 (by kernel_rfl) ?_
  refine ops_done (by kernel_rfl) ?_
  refine hK17 _ _ ?_
  clear hK17
  refine W.seq fun K28 hK28 => ?_
  refine W.region ?_
  refine ops_run 1 (by kernel_rfl) ?_
  obtain ⟨h29, hm⟩ := need_some hm
  refine ops_val (v := .int .i64 (IntKind.i64.wrap n_)) (v' := .int .i64 n_) (by kernel_rfl) (congrArg (Value.int .i64) (wrap_i64 h29.1 h29.2)) ?_
  refine ops_run 1 (by kernel_rfl) ?_
  refine ops_R (runs_load (ad := ⟨b13, 1, none⟩) (v := (.int .i64 (2 + i_ % 20))) (by kernel_rfl) (hs27.cellAt 2 rfl rfl)) ?_
  obtain ⟨h30, hm⟩ := need_some hm
  refine ops_val (v := .int .i64 (IntKind.i64.wrap ((2 + i_ % 20) - 1))) (v' := .int .i64 ((2 + i_ % 20) - 1)) (by kernel_rfl) (congrArg (Value.int .i64) (wrap_i64 h30.1 h30.2)) ?_
  obtain ⟨h31, hm⟩ := need_some hm
  refine ops_R (v := .int .i64 (n_.tmod ((2 + i_ % 20) - 1))) (runs_rem (k := .i64) (a := n_) (b := ((2 + i_ % 20) - 1)) (by kernel_rfl) h31 rfl) ?_
  obtain ⟨h32, hm⟩ := need_some hm
  refine ops_val (v := .int .i64 (IntKind.i64.wrap (1 + (n_.tmod ((2 + i_ % 20) - 1))))) (v' := .int .i64 (1 + (n_.tmod ((2 + i_ % 20) - 1)))) (by kernel_rfl) (congrArg (Value.int .i64) (wrap_i64 h32.1 h32.2)) ?_
  refine ops_run 1 (by kernel_rfl) ?_
  obtain ⟨r33, h34, hm⟩ := bind_some hm
  replace h34 := some_inj h34
  refine ops_set 11 (v := .int .i64 r33) (Eq.trans (by kernel_rfl) (congrArg (Value.int .i64) h34)) ?_
  refine ops_done (by kernel_rfl) ?_
  refine hK28 _ _ ?_
  clear hK28
  refine W.seq fun K35 hK35 => ?_
  refine W.region ?_
  refine ops_R (runs_loadAgg (ad := ⟨b13, 0, none⟩) (cs := [(.int .i64 1), (.int .i64 (2 + i_ % 20)), (.int .i64 (2 + b_ % 60))]) (by kernel_rfl) (cells_sub (hs27.heapAt 2 rfl) rfl)) ?_
  refine ops_run 1 (by kernel_rfl) ?_
  obtain ⟨r36, h37, hm⟩ := bind_some hm
  replace h37 := some_inj h37
  refine ops_call (pre := []) hs27 (by kernel_rfl) (inodeat_spec (gw := 1) (gi := (2 + i_ % 20)) (gb := (2 + b_ % 60)) (n_ := r33) B _) ?_
  rintro _ _ w38 ⟨hv40, hH41⟩ hs39
  rw [h37] at hv40
  try rw [h37] at hH41
  subst hv40 hH41
  have hs42 : St B w [] w38 [viewA (ptr b23) (fmtW 1 (2 + i_ % 20) (2 + b_ % 60)) ([]), kU64.row a18 c19 (fmtW 1 (2 + i_ % 20) (2 + b_ % 60)), blk b13 (.cells [(.int .i64 1), (.int .i64 (2 + i_ % 20)), (.int .i64 (2 + b_ % 60))].toArray 56 (0, 0)), blk b4 (.cells [(.int .u64 x_.k), (.int .u64 x_.l), (.int .u64 x_.o), (.int .u64 x_.s), (.int .u64 x_.a), (.int .u64 x_.b), (.int .u64 x_.c), (.int .u64 x_.d), (.int .u64 x_.e), (.int .u64 x_.m)].toArray 54 (0, 0))] := hs39
  refine ops_run 1 (by kernel_rfl) ?_
  refine ops_done (by kernel_rfl) ?_
  refine hK35 _ _ ?_
  clear hK35
  refine W.seq fun K43 hK43 => ?_
  refine W.seq fun K44 hK44 => ?_
  refine W.region ?_
  refine ops_run 6 (by kernel_rfl) ?_
  refine ops_done (by kernel_rfl) ?_
  refine hK44 _ _ ?_
  clear hK44
  refine W.cond (decide (r36 < 0)) (by kernel_rfl) (fun h45 => ?_) (fun h45 => ?_)
  ·
    have h45p : r36 < 0 := of_decide_eq_true h45
    replace hm := ite_yes hm h45p
    refine W.seq fun K46 hK46 => ?_
    refine W.region ?_
    refine ops_run 1 (by kernel_rfl) ?_
    refine ops_done (by kernel_rfl) ?_
    refine hK46 _ _ ?_
    clear hK46
    refine W.ret (ret_seq ?_)
    have hs47 : St B w [] w38 [] := St.take (H := []) hs42
    refine ret_of (.bool false) (by kernel_rfl) ⟨_, ⟨congrArg Value.bool (some_inj hm), rfl⟩, hs47⟩
  ·
    have h45p : ¬ (r36 < 0) := of_decide_eq_false h45
    replace hm := ite_no hm h45p
    refine W.skip ?_
    refine hK43 _ _ ?_
    clear hK43
    refine W.seq fun K48 hK48 => ?_
    refine W.seq fun K49 hK49 => ?_
    refine W.region ?_
    refine ops_run 1 (by kernel_rfl) ?_
    refine ops_R (runs_loadAgg (ad := ⟨b13, 0, none⟩) (cs := [(.int .i64 1), (.int .i64 (2 + i_ % 20)), (.int .i64 (2 + b_ % 60))]) (by kernel_rfl) (cells_sub (hs42.heapAt 2 rfl) rfl)) ?_
    refine ops_run 1 (by kernel_rfl) ?_
    refine ops_R (runs_loadAgg (ad := ⟨b4, 0, none⟩) (cs := [(.int .u64 x_.k), (.int .u64 x_.l), (.int .u64 x_.o), (.int .u64 x_.s), (.int .u64 x_.a), (.int .u64 x_.b), (.int .u64 x_.c), (.int .u64 x_.d), (.int .u64 x_.e), (.int .u64 x_.m)]) (by kernel_rfl) (cells_sub (hs42.heapAt 3 rfl) rfl)) ?_
    obtain ⟨r50, h51, hm⟩ := bind_some hm
    replace h51 := some_inj h51
    refine ops_call (pre := [viewA (ptr b23) (fmtW 1 (2 + i_ % 20) (2 + b_ % 60)) ([])]) hs42 (by kernel_rfl) (ip_spec (b := b23) (img := (fmtW 1 (2 + i_ % 20) (2 + b_ % 60))) (l := []) (gw := 1) (gi := (2 + i_ % 20)) (gb := (2 + b_ % 60)) (n_ := r33) (x_ := ⟨x_.k, x_.l, x_.o, x_.s, x_.a, x_.b, x_.c, x_.d, x_.e, x_.m⟩) B _) ?_
    rintro _ _ w54 ⟨hv52, hH53⟩ hs55
    rw [h51] at hv52
    try rw [h51] at hH53
    subst hv52 hH53
    have hs56 : St B w [] w54 [viewA (ptr b23) (fmtW 1 (2 + i_ % 20) (2 + b_ % 60)) r50.2, kU64.row a18 c19 (fmtW 1 (2 + i_ % 20) (2 + b_ % 60)), blk b13 (.cells [(.int .i64 1), (.int .i64 (2 + i_ % 20)), (.int .i64 (2 + b_ % 60))].toArray 56 (0, 0)), blk b4 (.cells [(.int .u64 x_.k), (.int .u64 x_.l), (.int .u64 x_.o), (.int .u64 x_.s), (.int .u64 x_.a), (.int .u64 x_.b), (.int .u64 x_.c), (.int .u64 x_.d), (.int .u64 x_.e), (.int .u64 x_.m)].toArray 54 (0, 0))] := hs55
    refine ops_run 1 (by kernel_rfl) ?_
    refine ops_done (by kernel_rfl) ?_
    refine hK49 _ _ ?_
    clear hK49
    refine W.cond (!decide (r50.1 = 0)) (by kernel_rfl) (fun h57 => ?_) (fun h57 => ?_)
    rotate_left
    ·
      have h57p : r50.1 = 0 := of_decide_eq_true (bnot_false h57)
      replace hm := ite_yes hm h57p
      refine W.skip ?_
      refine hK48 _ _ ?_
      clear hK48
      refine W.seq fun K58 hK58 => ?_
      refine W.seq fun K59 hK59 => ?_
      refine W.region ?_
      refine ops_run 1 (by kernel_rfl) ?_
      refine ops_done (by kernel_rfl) ?_
      refine hK59 _ _ ?_
      clear hK59
      refine W.block ?_
      refine W.loop_start ?_
      refine loopAt_round ?_
      refine W.seq fun K60 hK60 => ?_
      refine W.seq fun K61 hK61 => ?_
      refine W.region ?_
      refine ops_run 2 (by kernel_rfl) ?_
      refine ops_done (by kernel_rfl) ?_
      refine hK61 _ _ ?_
      clear hK61
      refine W.cond_true true (by kernel_rfl) rfl ?_
      refine W.skip ?_
      refine hK60 _ _ ?_
      clear hK60
      refine W.seq fun K62 hK62 => ?_
      refine W.block ?_
      refine W.seq fun K63 hK63 => ?_
      have hs64 := hs56.drew
      refine W.regionD [(0, 0), (0, 0), (2, 2), (0, 0), (12, 12), (17, 17), (0, 0), (0, 0), (192, 192), (256, 256), (544, 544)] (fun w_ => St B w [] w_ [viewA (ptr b23) (fmtW 1 (2 + i_ % 20) (2 + b_ % 60)) r50.2, kU64.row a18 c19 (fmtW 1 (2 + i_ % 20) (2 + b_ % 60)), blk b13 (.cells [(.int .i64 1), (.int .i64 (2 + i_ % 20)), (.int .i64 (2 + b_ % 60))].toArray 56 (0, 0)), blk b4 (.cells [(.int .u64 x_.k), (.int .u64 x_.l), (.int .u64 x_.o), (.int .u64 x_.s), (.int .u64 x_.a), (.int .u64 x_.b), (.int .u64 x_.c), (.int .u64 x_.d), (.int .u64 x_.e), (.int .u64 x_.m)].toArray 54 (0, 0))]) (by kernel_rfl) hs64 ?_
      refine any_val (v := (.pointer (some ⟨b23, 0, none⟩))) (v' := (.pointer (some ⟨b23, 0, none⟩))) 0 (by kernel_rfl) (fun _ => by kernel_rfl) rfl hs64 ?_
      refine any_val (v := (.int .i64 r36)) (v' := (.int .i64 r36)) 1 (by kernel_rfl) (fun _ => by kernel_rfl) rfl hs64 ?_
      obtain ⟨h65, hm⟩ := need_some hm
      refine any_val (v := .int .i64 (IntKind.i64.wrap (r36 + 4))) (v' := .int .i64 (r36 + 4)) 2 (by kernel_rfl) (fun _ => by kernel_rfl) (congrArg (Value.int .i64) (wrap_i64 h65.1 h65.2)) hs64 ?_
      refine any_val (v := (.int .i64 0)) (v' := (.int .i64 0)) 3 (by kernel_rfl) (fun _ => by kernel_rfl) rfl hs64 ?_
      obtain ⟨h66, hm⟩ := need_some hm
      refine any_val (v := .int .i64 (IntKind.i64.wrap ((r36 + 4) + 0))) (v' := .int .i64 ((r36 + 4) + 0)) 4 (by kernel_rfl) (fun _ => by kernel_rfl) (congrArg (Value.int .i64) (wrap_i64 h66.1 h66.2)) hs64 ?_
      refine any_val (v := (.int .i64 0)) (v' := (.int .i64 0)) 6 (by kernel_rfl) (fun _ => by kernel_rfl) rfl hs64 ?_
      refine any_val (v := (.pointer (some ⟨b4, 4, none⟩))) (v' := (.pointer (some ⟨b4, 4, none⟩))) 7 (by kernel_rfl) (fun _ => by kernel_rfl) rfl hs64 ?_
      refine any_val (v := (.pointer (some ⟨b4, 4, none⟩))) (v' := (.pointer (some ⟨b4, 4, none⟩))) 8 (by kernel_rfl) (fun _ => by kernel_rfl) rfl hs64 ?_
      refine any_R 9 (by kernel_rfl) (fun _ hS_ => runs_load (ad := ⟨b4, 4, none⟩) (v := (.int .u64 x_.a)) (by kernel_rfl) (hS_.cellAt 3 rfl rfl)) hs64 ?_
      refine any_step 5 (by kernel_rfl) (by kernel_rfl) ?_
      refine ops_call (pre := []) hs64 (by kernel_rfl) (get_spec (at_ := ((r36 + 4) + 0)) (hv := (hs64.entAt 0 rfl viewA_at)) B _) ?_
      rintro _ _ w67 ⟨rfl, rfl⟩ hs68
      have hs69 : St B w [] w67 [viewA (ptr b23) (fmtW 1 (2 + i_ % 20) (2 + b_ % 60)) r50.2, kU64.row a18 c19 (fmtW 1 (2 + i_ % 20) (2 + b_ % 60)), blk b13 (.cells [(.int .i64 1), (.int .i64 (2 + i_ % 20)), (.int .i64 (2 + b_ % 60))].toArray 56 (0, 0)), blk b4 (.cells [(.int .u64 x_.k), (.int .u64 x_.l), (.int .u64 x_.o), (.int .u64 x_.s), (.int .u64 x_.a), (.int .u64 x_.b), (.int .u64 x_.c), (.int .u64 x_.d), (.int .u64 x_.e), (.int .u64 x_.m)].toArray 54 (0, 0))] := hs68
      refine ops_done (by kernel_rfl) ⟨hs69, ?_⟩
      refine any_val (v := (.bool (!decide ((vget (fmtW 1 (2 + i_ % 20) (2 + b_ % 60)) r50.2 ((r36 + 4) + 0)) = x_.a)))) (v' := (.bool (!decide ((vget (fmtW 1 (2 + i_ % 20) (2 + b_ % 60)) r50.2 ((r36 + 4) + 0)) = x_.a)))) 10 (by kernel_rfl) (fun _ => by kernel_rfl) rfl hs69 ?_
      refine any_done (by kernel_rfl) ?_
      refine hK63 _ _ ?_
      clear hK63
      refine W.cond (!decide ((vget (fmtW 1 (2 + i_ % 20) (2 + b_ % 60)) r50.2 ((r36 + 4) + 0)) = x_.a)) (by kernel_rfl) (fun h70 => ?_) (fun h70 => ?_)
      rotate_left
      ·
        have h70p : (vget (fmtW 1 (2 + i_ % 20) (2 + b_ % 60)) r50.2 ((r36 + 4) + 0)) = x_.a := of_decide_eq_true (bnot_false h70)
        replace hm := ite_yes hm h70p
        refine W.skip ?_
        refine normal_block ?_
        refine hK62 _ _ ?_
        clear hK62
        refine W.region ?_
        refine ops_run 3 (by kernel_rfl) ?_
        refine ops_done (by kernel_rfl) ?_
        refine loopAt_next ?_
        refine loopAt_round ?_
        refine W.seq fun K71 hK71 => ?_
        refine W.seq fun K72 hK72 => ?_
        refine W.region ?_
        refine ops_run 2 (by kernel_rfl) ?_
        refine ops_done (by kernel_rfl) ?_
        refine hK72 _ _ ?_
        clear hK72
        refine W.cond_true true (by kernel_rfl) rfl ?_
        refine W.skip ?_
        refine hK71 _ _ ?_
        clear hK71
        refine W.seq fun K73 hK73 => ?_
        refine W.block ?_
        refine W.seq fun K74 hK74 => ?_
        have hs75 := hs69.drew
        refine W.regionD [(0, 0), (0, 0), (2, 2), (0, 0), (12, 12), (17, 17), (0, 0), (0, 0), (192, 192), (256, 256), (544, 544)] (fun w_ => St B w [] w_ [viewA (ptr b23) (fmtW 1 (2 + i_ % 20) (2 + b_ % 60)) r50.2, kU64.row a18 c19 (fmtW 1 (2 + i_ % 20) (2 + b_ % 60)), blk b13 (.cells [(.int .i64 1), (.int .i64 (2 + i_ % 20)), (.int .i64 (2 + b_ % 60))].toArray 56 (0, 0)), blk b4 (.cells [(.int .u64 x_.k), (.int .u64 x_.l), (.int .u64 x_.o), (.int .u64 x_.s), (.int .u64 x_.a), (.int .u64 x_.b), (.int .u64 x_.c), (.int .u64 x_.d), (.int .u64 x_.e), (.int .u64 x_.m)].toArray 54 (0, 0))]) (by kernel_rfl) hs75 ?_
        refine any_val (v := (.pointer (some ⟨b23, 0, none⟩))) (v' := (.pointer (some ⟨b23, 0, none⟩))) 0 (by kernel_rfl) (fun _ => by kernel_rfl) rfl hs75 ?_
        refine any_val (v := (.int .i64 r36)) (v' := (.int .i64 r36)) 1 (by kernel_rfl) (fun _ => by kernel_rfl) rfl hs75 ?_
        obtain ⟨h76, hm⟩ := need_some hm
        refine any_val (v := .int .i64 (IntKind.i64.wrap (r36 + 4))) (v' := .int .i64 (r36 + 4)) 2 (by kernel_rfl) (fun _ => by kernel_rfl) (congrArg (Value.int .i64) (wrap_i64 h76.1 h76.2)) hs75 ?_
        refine any_val (v := (.int .i64 1)) (v' := (.int .i64 1)) 3 (by kernel_rfl) (fun _ => by kernel_rfl) rfl hs75 ?_
        obtain ⟨h77, hm⟩ := need_some hm
        refine any_val (v := .int .i64 (IntKind.i64.wrap ((r36 + 4) + 1))) (v' := .int .i64 ((r36 + 4) + 1)) 4 (by kernel_rfl) (fun _ => by kernel_rfl) (congrArg (Value.int .i64) (wrap_i64 h77.1 h77.2)) hs75 ?_
        refine any_val (v := (.int .i64 1)) (v' := (.int .i64 1)) 6 (by kernel_rfl) (fun _ => by kernel_rfl) rfl hs75 ?_
        refine any_val (v := (.pointer (some ⟨b4, 4, none⟩))) (v' := (.pointer (some ⟨b4, 4, none⟩))) 7 (by kernel_rfl) (fun _ => by kernel_rfl) rfl hs75 ?_
        refine any_val (v := (.pointer (some ⟨b4, 5, none⟩))) (v' := (.pointer (some ⟨b4, 5, none⟩))) 8 (by kernel_rfl) (fun _ => by kernel_rfl) rfl hs75 ?_
        refine any_R 9 (by kernel_rfl) (fun _ hS_ => runs_load (ad := ⟨b4, 5, none⟩) (v := (.int .u64 x_.b)) (by kernel_rfl) (hS_.cellAt 3 rfl rfl)) hs75 ?_
        refine any_step 5 (by kernel_rfl) (by kernel_rfl) ?_
        refine ops_call (pre := []) hs75 (by kernel_rfl) (get_spec (at_ := ((r36 + 4) + 1)) (hv := (hs75.entAt 0 rfl viewA_at)) B _) ?_
        rintro _ _ w78 ⟨rfl, rfl⟩ hs79
        have hs80 : St B w [] w78 [viewA (ptr b23) (fmtW 1 (2 + i_ % 20) (2 + b_ % 60)) r50.2, kU64.row a18 c19 (fmtW 1 (2 + i_ % 20) (2 + b_ % 60)), blk b13 (.cells [(.int .i64 1), (.int .i64 (2 + i_ % 20)), (.int .i64 (2 + b_ % 60))].toArray 56 (0, 0)), blk b4 (.cells [(.int .u64 x_.k), (.int .u64 x_.l), (.int .u64 x_.o), (.int .u64 x_.s), (.int .u64 x_.a), (.int .u64 x_.b), (.int .u64 x_.c), (.int .u64 x_.d), (.int .u64 x_.e), (.int .u64 x_.m)].toArray 54 (0, 0))] := hs79
        refine ops_done (by kernel_rfl) ⟨hs80, ?_⟩
        refine any_val (v := (.bool (!decide ((vget (fmtW 1 (2 + i_ % 20) (2 + b_ % 60)) r50.2 ((r36 + 4) + 1)) = x_.b)))) (v' := (.bool (!decide ((vget (fmtW 1 (2 + i_ % 20) (2 + b_ % 60)) r50.2 ((r36 + 4) + 1)) = x_.b)))) 10 (by kernel_rfl) (fun _ => by kernel_rfl) rfl hs80 ?_
        refine any_done (by kernel_rfl) ?_
        refine hK74 _ _ ?_
        clear hK74
        refine W.cond (!decide ((vget (fmtW 1 (2 + i_ % 20) (2 + b_ % 60)) r50.2 ((r36 + 4) + 1)) = x_.b)) (by kernel_rfl) (fun h81 => ?_) (fun h81 => ?_)
        rotate_left
        ·
          have h81p : (vget (fmtW 1 (2 + i_ % 20) (2 + b_ % 60)) r50.2 ((r36 + 4) + 1)) = x_.b := of_decide_eq_true (bnot_false h81)
          replace hm := ite_yes hm h81p
          refine W.skip ?_
          refine normal_block ?_
          refine hK73 _ _ ?_
          clear hK73
          refine W.region ?_
          refine ops_run 3 (by kernel_rfl) ?_
          refine ops_done (by kernel_rfl) ?_
          refine loopAt_next ?_
          refine loopAt_round ?_
          refine W.seq fun K82 hK82 => ?_
          refine W.seq fun K83 hK83 => ?_
          refine W.region ?_
          refine ops_run 2 (by kernel_rfl) ?_
          refine ops_done (by kernel_rfl) ?_
          refine hK83 _ _ ?_
          clear hK83
          refine W.cond_true true (by kernel_rfl) rfl ?_
          refine W.skip ?_
          refine hK82 _ _ ?_
          clear hK82
          refine W.seq fun K84 hK84 => ?_
          refine W.block ?_
          refine W.seq fun K85 hK85 => ?_
          have hs86 := hs80.drew
          refine W.regionD [(0, 0), (0, 0), (2, 2), (0, 0), (12, 12), (17, 17), (0, 0), (0, 0), (192, 192), (256, 256), (544, 544)] (fun w_ => St B w [] w_ [viewA (ptr b23) (fmtW 1 (2 + i_ % 20) (2 + b_ % 60)) r50.2, kU64.row a18 c19 (fmtW 1 (2 + i_ % 20) (2 + b_ % 60)), blk b13 (.cells [(.int .i64 1), (.int .i64 (2 + i_ % 20)), (.int .i64 (2 + b_ % 60))].toArray 56 (0, 0)), blk b4 (.cells [(.int .u64 x_.k), (.int .u64 x_.l), (.int .u64 x_.o), (.int .u64 x_.s), (.int .u64 x_.a), (.int .u64 x_.b), (.int .u64 x_.c), (.int .u64 x_.d), (.int .u64 x_.e), (.int .u64 x_.m)].toArray 54 (0, 0))]) (by kernel_rfl) hs86 ?_
          refine any_val (v := (.pointer (some ⟨b23, 0, none⟩))) (v' := (.pointer (some ⟨b23, 0, none⟩))) 0 (by kernel_rfl) (fun _ => by kernel_rfl) rfl hs86 ?_
          refine any_val (v := (.int .i64 r36)) (v' := (.int .i64 r36)) 1 (by kernel_rfl) (fun _ => by kernel_rfl) rfl hs86 ?_
          obtain ⟨h87, hm⟩ := need_some hm
          refine any_val (v := .int .i64 (IntKind.i64.wrap (r36 + 4))) (v' := .int .i64 (r36 + 4)) 2 (by kernel_rfl) (fun _ => by kernel_rfl) (congrArg (Value.int .i64) (wrap_i64 h87.1 h87.2)) hs86 ?_
          refine any_val (v := (.int .i64 2)) (v' := (.int .i64 2)) 3 (by kernel_rfl) (fun _ => by kernel_rfl) rfl hs86 ?_
          obtain ⟨h88, hm⟩ := need_some hm
          refine any_val (v := .int .i64 (IntKind.i64.wrap ((r36 + 4) + 2))) (v' := .int .i64 ((r36 + 4) + 2)) 4 (by kernel_rfl) (fun _ => by kernel_rfl) (congrArg (Value.int .i64) (wrap_i64 h88.1 h88.2)) hs86 ?_
          refine any_val (v := (.int .i64 2)) (v' := (.int .i64 2)) 6 (by kernel_rfl) (fun _ => by kernel_rfl) rfl hs86 ?_
          refine any_val (v := (.pointer (some ⟨b4, 4, none⟩))) (v' := (.pointer (some ⟨b4, 4, none⟩))) 7 (by kernel_rfl) (fun _ => by kernel_rfl) rfl hs86 ?_
          refine any_val (v := (.pointer (some ⟨b4, 6, none⟩))) (v' := (.pointer (some ⟨b4, 6, none⟩))) 8 (by kernel_rfl) (fun _ => by kernel_rfl) rfl hs86 ?_
          refine any_R 9 (by kernel_rfl) (fun _ hS_ => runs_load (ad := ⟨b4, 6, none⟩) (v := (.int .u64 x_.c)) (by kernel_rfl) (hS_.cellAt 3 rfl rfl)) hs86 ?_
          refine any_step 5 (by kernel_rfl) (by kernel_rfl) ?_
          refine ops_call (pre := []) hs86 (by kernel_rfl) (get_spec (at_ := ((r36 + 4) + 2)) (hv := (hs86.entAt 0 rfl viewA_at)) B _) ?_
          rintro _ _ w89 ⟨rfl, rfl⟩ hs90
          have hs91 : St B w [] w89 [viewA (ptr b23) (fmtW 1 (2 + i_ % 20) (2 + b_ % 60)) r50.2, kU64.row a18 c19 (fmtW 1 (2 + i_ % 20) (2 + b_ % 60)), blk b13 (.cells [(.int .i64 1), (.int .i64 (2 + i_ % 20)), (.int .i64 (2 + b_ % 60))].toArray 56 (0, 0)), blk b4 (.cells [(.int .u64 x_.k), (.int .u64 x_.l), (.int .u64 x_.o), (.int .u64 x_.s), (.int .u64 x_.a), (.int .u64 x_.b), (.int .u64 x_.c), (.int .u64 x_.d), (.int .u64 x_.e), (.int .u64 x_.m)].toArray 54 (0, 0))] := hs90
          refine ops_done (by kernel_rfl) ⟨hs91, ?_⟩
          refine any_val (v := (.bool (!decide ((vget (fmtW 1 (2 + i_ % 20) (2 + b_ % 60)) r50.2 ((r36 + 4) + 2)) = x_.c)))) (v' := (.bool (!decide ((vget (fmtW 1 (2 + i_ % 20) (2 + b_ % 60)) r50.2 ((r36 + 4) + 2)) = x_.c)))) 10 (by kernel_rfl) (fun _ => by kernel_rfl) rfl hs91 ?_
          refine any_done (by kernel_rfl) ?_
          refine hK85 _ _ ?_
          clear hK85
          refine W.cond (!decide ((vget (fmtW 1 (2 + i_ % 20) (2 + b_ % 60)) r50.2 ((r36 + 4) + 2)) = x_.c)) (by kernel_rfl) (fun h92 => ?_) (fun h92 => ?_)
          rotate_left
          ·
            have h92p : (vget (fmtW 1 (2 + i_ % 20) (2 + b_ % 60)) r50.2 ((r36 + 4) + 2)) = x_.c := of_decide_eq_true (bnot_false h92)
            replace hm := ite_yes hm h92p
            refine W.skip ?_
            refine normal_block ?_
            refine hK84 _ _ ?_
            clear hK84
            refine W.region ?_
            refine ops_run 3 (by kernel_rfl) ?_
            refine ops_done (by kernel_rfl) ?_
            refine loopAt_next ?_
            refine loopAt_round ?_
            refine W.seq fun K93 hK93 => ?_
            refine W.seq fun K94 hK94 => ?_
            refine W.region ?_
            refine ops_run 2 (by kernel_rfl) ?_
            refine ops_done (by kernel_rfl) ?_
            refine hK94 _ _ ?_
            clear hK94
            refine W.cond_true true (by kernel_rfl) rfl ?_
            refine W.skip ?_
            refine hK93 _ _ ?_
            clear hK93
            refine W.seq fun K95 hK95 => ?_
            refine W.block ?_
            refine W.seq fun K96 hK96 => ?_
            have hs97 := hs91.drew
            refine W.regionD [(0, 0), (0, 0), (2, 2), (0, 0), (12, 12), (17, 17), (0, 0), (0, 0), (192, 192), (256, 256), (544, 544)] (fun w_ => St B w [] w_ [viewA (ptr b23) (fmtW 1 (2 + i_ % 20) (2 + b_ % 60)) r50.2, kU64.row a18 c19 (fmtW 1 (2 + i_ % 20) (2 + b_ % 60)), blk b13 (.cells [(.int .i64 1), (.int .i64 (2 + i_ % 20)), (.int .i64 (2 + b_ % 60))].toArray 56 (0, 0)), blk b4 (.cells [(.int .u64 x_.k), (.int .u64 x_.l), (.int .u64 x_.o), (.int .u64 x_.s), (.int .u64 x_.a), (.int .u64 x_.b), (.int .u64 x_.c), (.int .u64 x_.d), (.int .u64 x_.e), (.int .u64 x_.m)].toArray 54 (0, 0))]) (by kernel_rfl) hs97 ?_
            refine any_val (v := (.pointer (some ⟨b23, 0, none⟩))) (v' := (.pointer (some ⟨b23, 0, none⟩))) 0 (by kernel_rfl) (fun _ => by kernel_rfl) rfl hs97 ?_
            refine any_val (v := (.int .i64 r36)) (v' := (.int .i64 r36)) 1 (by kernel_rfl) (fun _ => by kernel_rfl) rfl hs97 ?_
            obtain ⟨h98, hm⟩ := need_some hm
            refine any_val (v := .int .i64 (IntKind.i64.wrap (r36 + 4))) (v' := .int .i64 (r36 + 4)) 2 (by kernel_rfl) (fun _ => by kernel_rfl) (congrArg (Value.int .i64) (wrap_i64 h98.1 h98.2)) hs97 ?_
            refine any_val (v := (.int .i64 3)) (v' := (.int .i64 3)) 3 (by kernel_rfl) (fun _ => by kernel_rfl) rfl hs97 ?_
            obtain ⟨h99, hm⟩ := need_some hm
            refine any_val (v := .int .i64 (IntKind.i64.wrap ((r36 + 4) + 3))) (v' := .int .i64 ((r36 + 4) + 3)) 4 (by kernel_rfl) (fun _ => by kernel_rfl) (congrArg (Value.int .i64) (wrap_i64 h99.1 h99.2)) hs97 ?_
            refine any_val (v := (.int .i64 3)) (v' := (.int .i64 3)) 6 (by kernel_rfl) (fun _ => by kernel_rfl) rfl hs97 ?_
            refine any_val (v := (.pointer (some ⟨b4, 4, none⟩))) (v' := (.pointer (some ⟨b4, 4, none⟩))) 7 (by kernel_rfl) (fun _ => by kernel_rfl) rfl hs97 ?_
            refine any_val (v := (.pointer (some ⟨b4, 7, none⟩))) (v' := (.pointer (some ⟨b4, 7, none⟩))) 8 (by kernel_rfl) (fun _ => by kernel_rfl) rfl hs97 ?_
            refine any_R 9 (by kernel_rfl) (fun _ hS_ => runs_load (ad := ⟨b4, 7, none⟩) (v := (.int .u64 x_.d)) (by kernel_rfl) (hS_.cellAt 3 rfl rfl)) hs97 ?_
            refine any_step 5 (by kernel_rfl) (by kernel_rfl) ?_
            refine ops_call (pre := []) hs97 (by kernel_rfl) (get_spec (at_ := ((r36 + 4) + 3)) (hv := (hs97.entAt 0 rfl viewA_at)) B _) ?_
            rintro _ _ w100 ⟨rfl, rfl⟩ hs101
            have hs102 : St B w [] w100 [viewA (ptr b23) (fmtW 1 (2 + i_ % 20) (2 + b_ % 60)) r50.2, kU64.row a18 c19 (fmtW 1 (2 + i_ % 20) (2 + b_ % 60)), blk b13 (.cells [(.int .i64 1), (.int .i64 (2 + i_ % 20)), (.int .i64 (2 + b_ % 60))].toArray 56 (0, 0)), blk b4 (.cells [(.int .u64 x_.k), (.int .u64 x_.l), (.int .u64 x_.o), (.int .u64 x_.s), (.int .u64 x_.a), (.int .u64 x_.b), (.int .u64 x_.c), (.int .u64 x_.d), (.int .u64 x_.e), (.int .u64 x_.m)].toArray 54 (0, 0))] := hs101
            refine ops_done (by kernel_rfl) ⟨hs102, ?_⟩
            refine any_val (v := (.bool (!decide ((vget (fmtW 1 (2 + i_ % 20) (2 + b_ % 60)) r50.2 ((r36 + 4) + 3)) = x_.d)))) (v' := (.bool (!decide ((vget (fmtW 1 (2 + i_ % 20) (2 + b_ % 60)) r50.2 ((r36 + 4) + 3)) = x_.d)))) 10 (by kernel_rfl) (fun _ => by kernel_rfl) rfl hs102 ?_
            refine any_done (by kernel_rfl) ?_
            refine hK96 _ _ ?_
            clear hK96
            refine W.cond (!decide ((vget (fmtW 1 (2 + i_ % 20) (2 + b_ % 60)) r50.2 ((r36 + 4) + 3)) = x_.d)) (by kernel_rfl) (fun h103 => ?_) (fun h103 => ?_)
            rotate_left
            ·
              have h103p : (vget (fmtW 1 (2 + i_ % 20) (2 + b_ % 60)) r50.2 ((r36 + 4) + 3)) = x_.d := of_decide_eq_true (bnot_false h103)
              replace hm := ite_yes hm h103p
              refine W.skip ?_
              refine normal_block ?_
              refine hK95 _ _ ?_
              clear hK95
              refine W.region ?_
              refine ops_run 3 (by kernel_rfl) ?_
              refine ops_done (by kernel_rfl) ?_
              refine loopAt_next ?_
              refine loopAt_round ?_
              refine W.seq fun K104 hK104 => ?_
              refine W.seq fun K105 hK105 => ?_
              refine W.region ?_
              refine ops_run 2 (by kernel_rfl) ?_
              refine ops_done (by kernel_rfl) ?_
              refine hK105 _ _ ?_
              clear hK105
              refine W.cond_false false (by kernel_rfl) rfl ?_
              refine W.exit (exit_seq (exit_seq (exit_here ?_)))
              refine hK58 _ _ ?_
              clear hK58
              refine W.seq fun K106 hK106 => ?_
              have hs107 := hs102.drew
              refine W.regionD [(0, 0), (0, 0), (3, 3), (0, 0), (8, 8), (20, 20), (36, 32), (64, 64), (64, 64), (320, 320), (704, 704), (64, 64), (2112, 2112), (5184, 5184), (8256, 8256), (17408, 16384), (32768, 32768), (32768, 32768), (163840, 163840), (360448, 360448), (32768, 32768), (1081344, 1081344), (2654208, 2654208), (4227072, 4227072), (8912896, 8388608), (16777216, 16777216), (16777216, 16777216), (83886080, 83886080), (184549376, 184549376), (16777216, 16777216), (553648128, 553648128), (1358954496, 1358954496), (2164260864, 2164260864), (4563402752, 4294967296), (8589934592, 8589934592), (8589934592, 8589934592), (42949672960, 42949672960), (94489280512, 94489280512), (8589934592, 8589934592), (283467841536, 283467841536), (695784701952, 695784701952), (1108101562368, 1108101562368), (2336462209024, 2199023255552), (4398046511104, 4398046511104), (4398046511104, 4398046511104), (21990232555520, 21990232555520), (48378511622144, 48378511622144), (4398046511104, 4398046511104), (145135534866432, 145135534866432), (356241767399424, 356241767399424), (567347999932416, 567347999932416), (1196268651020288, 1125899906842624), (2251799813685248, 2251799813685248), (6755399441055744, 6755399441055744), (18014398509481983, 9007199254740992)] (fun w_ => St B w [] w_ [viewA (ptr b23) (fmtW 1 (2 + i_ % 20) (2 + b_ % 60)) r50.2, kU64.row a18 c19 (fmtW 1 (2 + i_ % 20) (2 + b_ % 60)), blk b13 (.cells [(.int .i64 1), (.int .i64 (2 + i_ % 20)), (.int .i64 (2 + b_ % 60))].toArray 56 (0, 0)), blk b4 (.cells [(.int .u64 x_.k), (.int .u64 x_.l), (.int .u64 x_.o), (.int .u64 x_.s), (.int .u64 x_.a), (.int .u64 x_.b), (.int .u64 x_.c), (.int .u64 x_.d), (.int .u64 x_.e), (.int .u64 x_.m)].toArray 54 (0, 0))]) (by kernel_rfl) hs107 ?_
              refine any_val (v := (.pointer (some ⟨b23, 0, none⟩))) (v' := (.pointer (some ⟨b23, 0, none⟩))) 0 (by kernel_rfl) (fun _ => by kernel_rfl) rfl hs107 ?_
              refine any_val (v := (.int .i64 r36)) (v' := (.int .i64 r36)) 1 (by kernel_rfl) (fun _ => by kernel_rfl) rfl hs107 ?_
              refine any_val (v := (.pointer (some ⟨b4, 0, none⟩))) (v' := (.pointer (some ⟨b4, 0, none⟩))) 3 (by kernel_rfl) (fun _ => by kernel_rfl) rfl hs107 ?_
              refine any_R 4 (by kernel_rfl) (fun _ hS_ => runs_load (ad := ⟨b4, 0, none⟩) (v := (.int .u64 x_.k)) (by kernel_rfl) (hS_.cellAt 3 rfl rfl)) hs107 ?_
              refine any_step 2 (by kernel_rfl) (by kernel_rfl) ?_
              refine ops_call (pre := []) hs107 (by kernel_rfl) (get_spec (at_ := r36) (hv := (hs107.entAt 0 rfl viewA_at)) B _) ?_
              rintro _ _ w108 ⟨rfl, rfl⟩ hs109
              have hs110 : St B w [] w108 [viewA (ptr b23) (fmtW 1 (2 + i_ % 20) (2 + b_ % 60)) r50.2, kU64.row a18 c19 (fmtW 1 (2 + i_ % 20) (2 + b_ % 60)), blk b13 (.cells [(.int .i64 1), (.int .i64 (2 + i_ % 20)), (.int .i64 (2 + b_ % 60))].toArray 56 (0, 0)), blk b4 (.cells [(.int .u64 x_.k), (.int .u64 x_.l), (.int .u64 x_.o), (.int .u64 x_.s), (.int .u64 x_.a), (.int .u64 x_.b), (.int .u64 x_.c), (.int .u64 x_.d), (.int .u64 x_.e), (.int .u64 x_.m)].toArray 54 (0, 0))] := hs109
              refine ops_done (by kernel_rfl) ⟨hs110, ?_⟩
              refine any_val (v := (.bool (decide ((vget (fmtW 1 (2 + i_ % 20) (2 + b_ % 60)) r50.2 r36) = x_.k)))) (v' := (.bool (decide ((vget (fmtW 1 (2 + i_ % 20) (2 + b_ % 60)) r50.2 r36) = x_.k)))) 5 (by kernel_rfl) (fun _ => by kernel_rfl) rfl hs110 ?_
              refine any_val (v := (.bool (decide ((vget (fmtW 1 (2 + i_ % 20) (2 + b_ % 60)) r50.2 r36) = x_.k)))) (v' := (.bool (decide ((vget (fmtW 1 (2 + i_ % 20) (2 + b_ % 60)) r50.2 r36) = x_.k)))) 6 (by kernel_rfl) (fun _ => by kernel_rfl) rfl hs110 ?_
              rcases Bool.eq_false_or_eq_true (decide ((vget (fmtW 1 (2 + i_ % 20) (2 + b_ % 60)) r50.2 r36) = x_.k)) with h111 | h111
              ·
                have h111p : (vget (fmtW 1 (2 + i_ % 20) (2 + b_ % 60)) r50.2 r36) = x_.k := of_decide_eq_true h111
                replace hm := ite_yes hm h111p
                refine any_set 69 (v := .bool true) (eq_bool_of (by kernel_rfl) h111) ?_
                refine any_set 70 (v := .bool true) (eq_bool_of (by kernel_rfl) h111) ?_
                refine any_val (v := (.pointer (some ⟨b23, 0, none⟩))) (v' := (.pointer (some ⟨b23, 0, none⟩))) 7 (by kernel_rfl) (fun _ => by kernel_rfl) rfl hs110 ?_
                refine any_val (v := (.int .i64 r36)) (v' := (.int .i64 r36)) 8 (by kernel_rfl) (fun _ => by kernel_rfl) rfl hs110 ?_
                obtain ⟨h112, hm⟩ := need_some hm
                refine any_val (v := .int .i64 (IntKind.i64.wrap (r36 + 1))) (v' := .int .i64 (r36 + 1)) 9 (by kernel_rfl) (fun _ => by kernel_rfl) (congrArg (Value.int .i64) (wrap_i64 h112.1 h112.2)) hs110 ?_
                refine any_val (v := (.pointer (some ⟨b4, 1, none⟩))) (v' := (.pointer (some ⟨b4, 1, none⟩))) 11 (by kernel_rfl) (fun _ => by kernel_rfl) rfl hs110 ?_
                refine any_R 12 (by kernel_rfl) (fun _ hS_ => runs_load (ad := ⟨b4, 1, none⟩) (v := (.int .u64 x_.l)) (by kernel_rfl) (hS_.cellAt 3 rfl rfl)) hs110 ?_
                refine any_step 10 (by kernel_rfl) (by kernel_rfl) ?_
                refine ops_call (pre := []) hs110 (by kernel_rfl) (get_spec (at_ := (r36 + 1)) (hv := (hs110.entAt 0 rfl viewA_at)) B _) ?_
                rintro _ _ w113 ⟨rfl, rfl⟩ hs114
                have hs115 : St B w [] w113 [viewA (ptr b23) (fmtW 1 (2 + i_ % 20) (2 + b_ % 60)) r50.2, kU64.row a18 c19 (fmtW 1 (2 + i_ % 20) (2 + b_ % 60)), blk b13 (.cells [(.int .i64 1), (.int .i64 (2 + i_ % 20)), (.int .i64 (2 + b_ % 60))].toArray 56 (0, 0)), blk b4 (.cells [(.int .u64 x_.k), (.int .u64 x_.l), (.int .u64 x_.o), (.int .u64 x_.s), (.int .u64 x_.a), (.int .u64 x_.b), (.int .u64 x_.c), (.int .u64 x_.d), (.int .u64 x_.e), (.int .u64 x_.m)].toArray 54 (0, 0))] := hs114
                refine ops_done (by kernel_rfl) ⟨hs115, ?_⟩
                refine any_val (v := (.bool (decide ((vget (fmtW 1 (2 + i_ % 20) (2 + b_ % 60)) r50.2 (r36 + 1)) = x_.l)))) (v' := (.bool (decide ((vget (fmtW 1 (2 + i_ % 20) (2 + b_ % 60)) r50.2 (r36 + 1)) = x_.l)))) 13 (by kernel_rfl) (fun _ => by kernel_rfl) rfl hs115 ?_
                refine any_val (v := (.bool (decide ((vget (fmtW 1 (2 + i_ % 20) (2 + b_ % 60)) r50.2 (r36 + 1)) = x_.l)))) (v' := (.bool (decide ((vget (fmtW 1 (2 + i_ % 20) (2 + b_ % 60)) r50.2 (r36 + 1)) = x_.l)))) 14 (by kernel_rfl) (fun _ => by kernel_rfl) rfl hs115 ?_
                refine any_val (v := (.bool (decide ((vget (fmtW 1 (2 + i_ % 20) (2 + b_ % 60)) r50.2 (r36 + 1)) = x_.l)))) (v' := (.bool (decide ((vget (fmtW 1 (2 + i_ % 20) (2 + b_ % 60)) r50.2 (r36 + 1)) = x_.l)))) 15 (by kernel_rfl) (fun _ => by kernel_rfl) rfl hs115 ?_
                rcases Bool.eq_false_or_eq_true (decide ((vget (fmtW 1 (2 + i_ % 20) (2 + b_ % 60)) r50.2 (r36 + 1)) = x_.l)) with h116 | h116
                ·
                  have h116p : (vget (fmtW 1 (2 + i_ % 20) (2 + b_ % 60)) r50.2 (r36 + 1)) = x_.l := of_decide_eq_true h116
                  replace hm := ite_yes hm h116p
                  refine any_set 77 (v := .bool true) (eq_bool_of (by kernel_rfl) h116) ?_
                  refine any_set 78 (v := .bool true) (eq_bool_of (by kernel_rfl) h116) ?_
                  refine any_set 79 (v := .bool true) (eq_bool_of (by kernel_rfl) h116) ?_
                  refine any_val (v := (.pointer (some ⟨b23, 0, none⟩))) (v' := (.pointer (some ⟨b23, 0, none⟩))) 16 (by kernel_rfl) (fun _ => by kernel_rfl) rfl hs115 ?_
                  refine any_val (v := (.int .i64 r36)) (v' := (.int .i64 r36)) 17 (by kernel_rfl) (fun _ => by kernel_rfl) rfl hs115 ?_
                  obtain ⟨h117, hm⟩ := need_some hm
                  refine any_val (v := .int .i64 (IntKind.i64.wrap (r36 + 2))) (v' := .int .i64 (r36 + 2)) 18 (by kernel_rfl) (fun _ => by kernel_rfl) (congrArg (Value.int .i64) (wrap_i64 h117.1 h117.2)) hs115 ?_
                  refine any_val (v := (.pointer (some ⟨b4, 2, none⟩))) (v' := (.pointer (some ⟨b4, 2, none⟩))) 20 (by kernel_rfl) (fun _ => by kernel_rfl) rfl hs115 ?_
                  refine any_R 21 (by kernel_rfl) (fun _ hS_ => runs_load (ad := ⟨b4, 2, none⟩) (v := (.int .u64 x_.o)) (by kernel_rfl) (hS_.cellAt 3 rfl rfl)) hs115 ?_
                  refine any_step 19 (by kernel_rfl) (by kernel_rfl) ?_
                  refine ops_call (pre := []) hs115 (by kernel_rfl) (get_spec (at_ := (r36 + 2)) (hv := (hs115.entAt 0 rfl viewA_at)) B _) ?_
                  rintro _ _ w118 ⟨rfl, rfl⟩ hs119
                  have hs120 : St B w [] w118 [viewA (ptr b23) (fmtW 1 (2 + i_ % 20) (2 + b_ % 60)) r50.2, kU64.row a18 c19 (fmtW 1 (2 + i_ % 20) (2 + b_ % 60)), blk b13 (.cells [(.int .i64 1), (.int .i64 (2 + i_ % 20)), (.int .i64 (2 + b_ % 60))].toArray 56 (0, 0)), blk b4 (.cells [(.int .u64 x_.k), (.int .u64 x_.l), (.int .u64 x_.o), (.int .u64 x_.s), (.int .u64 x_.a), (.int .u64 x_.b), (.int .u64 x_.c), (.int .u64 x_.d), (.int .u64 x_.e), (.int .u64 x_.m)].toArray 54 (0, 0))] := hs119
                  refine ops_done (by kernel_rfl) ⟨hs120, ?_⟩
                  refine any_val (v := (.bool (decide ((vget (fmtW 1 (2 + i_ % 20) (2 + b_ % 60)) r50.2 (r36 + 2)) = x_.o)))) (v' := (.bool (decide ((vget (fmtW 1 (2 + i_ % 20) (2 + b_ % 60)) r50.2 (r36 + 2)) = x_.o)))) 22 (by kernel_rfl) (fun _ => by kernel_rfl) rfl hs120 ?_
                  refine any_val (v := (.bool (decide ((vget (fmtW 1 (2 + i_ % 20) (2 + b_ % 60)) r50.2 (r36 + 2)) = x_.o)))) (v' := (.bool (decide ((vget (fmtW 1 (2 + i_ % 20) (2 + b_ % 60)) r50.2 (r36 + 2)) = x_.o)))) 23 (by kernel_rfl) (fun _ => by kernel_rfl) rfl hs120 ?_
                  refine any_val (v := (.bool (decide ((vget (fmtW 1 (2 + i_ % 20) (2 + b_ % 60)) r50.2 (r36 + 2)) = x_.o)))) (v' := (.bool (decide ((vget (fmtW 1 (2 + i_ % 20) (2 + b_ % 60)) r50.2 (r36 + 2)) = x_.o)))) 24 (by kernel_rfl) (fun _ => by kernel_rfl) rfl hs120 ?_
                  rcases Bool.eq_false_or_eq_true (decide ((vget (fmtW 1 (2 + i_ % 20) (2 + b_ % 60)) r50.2 (r36 + 2)) = x_.o)) with h121 | h121
                  ·
                    have h121p : (vget (fmtW 1 (2 + i_ % 20) (2 + b_ % 60)) r50.2 (r36 + 2)) = x_.o := of_decide_eq_true h121
                    replace hm := ite_yes hm h121p
                    refine any_set 86 (v := .bool true) (eq_bool_of (by kernel_rfl) h121) ?_
                    refine any_set 87 (v := .bool true) (eq_bool_of (by kernel_rfl) h121) ?_
                    refine any_set 88 (v := .bool true) (eq_bool_of (by kernel_rfl) h121) ?_
                    refine any_val (v := (.pointer (some ⟨b23, 0, none⟩))) (v' := (.pointer (some ⟨b23, 0, none⟩))) 25 (by kernel_rfl) (fun _ => by kernel_rfl) rfl hs120 ?_
                    refine any_val (v := (.int .i64 r36)) (v' := (.int .i64 r36)) 26 (by kernel_rfl) (fun _ => by kernel_rfl) rfl hs120 ?_
                    obtain ⟨h122, hm⟩ := need_some hm
                    refine any_val (v := .int .i64 (IntKind.i64.wrap (r36 + 3))) (v' := .int .i64 (r36 + 3)) 27 (by kernel_rfl) (fun _ => by kernel_rfl) (congrArg (Value.int .i64) (wrap_i64 h122.1 h122.2)) hs120 ?_
                    refine any_val (v := (.pointer (some ⟨b4, 3, none⟩))) (v' := (.pointer (some ⟨b4, 3, none⟩))) 29 (by kernel_rfl) (fun _ => by kernel_rfl) rfl hs120 ?_
                    refine any_R 30 (by kernel_rfl) (fun _ hS_ => runs_load (ad := ⟨b4, 3, none⟩) (v := (.int .u64 x_.s)) (by kernel_rfl) (hS_.cellAt 3 rfl rfl)) hs120 ?_
                    refine any_step 28 (by kernel_rfl) (by kernel_rfl) ?_
                    refine ops_call (pre := []) hs120 (by kernel_rfl) (get_spec (at_ := (r36 + 3)) (hv := (hs120.entAt 0 rfl viewA_at)) B _) ?_
                    rintro _ _ w123 ⟨rfl, rfl⟩ hs124
                    have hs125 : St B w [] w123 [viewA (ptr b23) (fmtW 1 (2 + i_ % 20) (2 + b_ % 60)) r50.2, kU64.row a18 c19 (fmtW 1 (2 + i_ % 20) (2 + b_ % 60)), blk b13 (.cells [(.int .i64 1), (.int .i64 (2 + i_ % 20)), (.int .i64 (2 + b_ % 60))].toArray 56 (0, 0)), blk b4 (.cells [(.int .u64 x_.k), (.int .u64 x_.l), (.int .u64 x_.o), (.int .u64 x_.s), (.int .u64 x_.a), (.int .u64 x_.b), (.int .u64 x_.c), (.int .u64 x_.d), (.int .u64 x_.e), (.int .u64 x_.m)].toArray 54 (0, 0))] := hs124
                    refine ops_done (by kernel_rfl) ⟨hs125, ?_⟩
                    refine any_val (v := (.bool (decide ((vget (fmtW 1 (2 + i_ % 20) (2 + b_ % 60)) r50.2 (r36 + 3)) = x_.s)))) (v' := (.bool (decide ((vget (fmtW 1 (2 + i_ % 20) (2 + b_ % 60)) r50.2 (r36 + 3)) = x_.s)))) 31 (by kernel_rfl) (fun _ => by kernel_rfl) rfl hs125 ?_
                    refine any_val (v := (.bool (decide ((vget (fmtW 1 (2 + i_ % 20) (2 + b_ % 60)) r50.2 (r36 + 3)) = x_.s)))) (v' := (.bool (decide ((vget (fmtW 1 (2 + i_ % 20) (2 + b_ % 60)) r50.2 (r36 + 3)) = x_.s)))) 32 (by kernel_rfl) (fun _ => by kernel_rfl) rfl hs125 ?_
                    refine any_val (v := (.bool (decide ((vget (fmtW 1 (2 + i_ % 20) (2 + b_ % 60)) r50.2 (r36 + 3)) = x_.s)))) (v' := (.bool (decide ((vget (fmtW 1 (2 + i_ % 20) (2 + b_ % 60)) r50.2 (r36 + 3)) = x_.s)))) 33 (by kernel_rfl) (fun _ => by kernel_rfl) rfl hs125 ?_
                    rcases Bool.eq_false_or_eq_true (decide ((vget (fmtW 1 (2 + i_ % 20) (2 + b_ % 60)) r50.2 (r36 + 3)) = x_.s)) with h126 | h126
                    ·
                      have h126p : (vget (fmtW 1 (2 + i_ % 20) (2 + b_ % 60)) r50.2 (r36 + 3)) = x_.s := of_decide_eq_true h126
                      replace hm := ite_yes hm h126p
                      refine any_set 95 (v := .bool true) (eq_bool_of (by kernel_rfl) h126) ?_
                      refine any_set 96 (v := .bool true) (eq_bool_of (by kernel_rfl) h126) ?_
                      refine any_set 97 (v := .bool true) (eq_bool_of (by kernel_rfl) h126) ?_
                      refine any_val (v := (.pointer (some ⟨b23, 0, none⟩))) (v' := (.pointer (some ⟨b23, 0, none⟩))) 34 (by kernel_rfl) (fun _ => by kernel_rfl) rfl hs125 ?_
                      refine any_val (v := (.int .i64 r36)) (v' := (.int .i64 r36)) 35 (by kernel_rfl) (fun _ => by kernel_rfl) rfl hs125 ?_
                      obtain ⟨h127, hm⟩ := need_some hm
                      refine any_val (v := .int .i64 (IntKind.i64.wrap (r36 + 8))) (v' := .int .i64 (r36 + 8)) 36 (by kernel_rfl) (fun _ => by kernel_rfl) (congrArg (Value.int .i64) (wrap_i64 h127.1 h127.2)) hs125 ?_
                      refine any_val (v := (.pointer (some ⟨b4, 8, none⟩))) (v' := (.pointer (some ⟨b4, 8, none⟩))) 38 (by kernel_rfl) (fun _ => by kernel_rfl) rfl hs125 ?_
                      refine any_R 39 (by kernel_rfl) (fun _ hS_ => runs_load (ad := ⟨b4, 8, none⟩) (v := (.int .u64 x_.e)) (by kernel_rfl) (hS_.cellAt 3 rfl rfl)) hs125 ?_
                      refine any_step 37 (by kernel_rfl) (by kernel_rfl) ?_
                      refine ops_call (pre := []) hs125 (by kernel_rfl) (get_spec (at_ := (r36 + 8)) (hv := (hs125.entAt 0 rfl viewA_at)) B _) ?_
                      rintro _ _ w128 ⟨rfl, rfl⟩ hs129
                      have hs130 : St B w [] w128 [viewA (ptr b23) (fmtW 1 (2 + i_ % 20) (2 + b_ % 60)) r50.2, kU64.row a18 c19 (fmtW 1 (2 + i_ % 20) (2 + b_ % 60)), blk b13 (.cells [(.int .i64 1), (.int .i64 (2 + i_ % 20)), (.int .i64 (2 + b_ % 60))].toArray 56 (0, 0)), blk b4 (.cells [(.int .u64 x_.k), (.int .u64 x_.l), (.int .u64 x_.o), (.int .u64 x_.s), (.int .u64 x_.a), (.int .u64 x_.b), (.int .u64 x_.c), (.int .u64 x_.d), (.int .u64 x_.e), (.int .u64 x_.m)].toArray 54 (0, 0))] := hs129
                      refine ops_done (by kernel_rfl) ⟨hs130, ?_⟩
                      refine any_val (v := (.bool (decide ((vget (fmtW 1 (2 + i_ % 20) (2 + b_ % 60)) r50.2 (r36 + 8)) = x_.e)))) (v' := (.bool (decide ((vget (fmtW 1 (2 + i_ % 20) (2 + b_ % 60)) r50.2 (r36 + 8)) = x_.e)))) 40 (by kernel_rfl) (fun _ => by kernel_rfl) rfl hs130 ?_
                      refine any_val (v := (.bool (decide ((vget (fmtW 1 (2 + i_ % 20) (2 + b_ % 60)) r50.2 (r36 + 8)) = x_.e)))) (v' := (.bool (decide ((vget (fmtW 1 (2 + i_ % 20) (2 + b_ % 60)) r50.2 (r36 + 8)) = x_.e)))) 41 (by kernel_rfl) (fun _ => by kernel_rfl) rfl hs130 ?_
                      refine any_val (v := (.bool (decide ((vget (fmtW 1 (2 + i_ % 20) (2 + b_ % 60)) r50.2 (r36 + 8)) = x_.e)))) (v' := (.bool (decide ((vget (fmtW 1 (2 + i_ % 20) (2 + b_ % 60)) r50.2 (r36 + 8)) = x_.e)))) 42 (by kernel_rfl) (fun _ => by kernel_rfl) rfl hs130 ?_
                      rcases Bool.eq_false_or_eq_true (decide ((vget (fmtW 1 (2 + i_ % 20) (2 + b_ % 60)) r50.2 (r36 + 8)) = x_.e)) with h131 | h131
                      ·
                        have h131p : (vget (fmtW 1 (2 + i_ % 20) (2 + b_ % 60)) r50.2 (r36 + 8)) = x_.e := of_decide_eq_true h131
                        replace hm := ite_yes hm h131p
                        refine any_set 104 (v := .bool true) (eq_bool_of (by kernel_rfl) h131) ?_
                        refine any_set 105 (v := .bool true) (eq_bool_of (by kernel_rfl) h131) ?_
                        refine any_set 106 (v := .bool true) (eq_bool_of (by kernel_rfl) h131) ?_
                        refine any_val (v := (.pointer (some ⟨b23, 0, none⟩))) (v' := (.pointer (some ⟨b23, 0, none⟩))) 43 (by kernel_rfl) (fun _ => by kernel_rfl) rfl hs130 ?_
                        refine any_val (v := (.int .i64 r36)) (v' := (.int .i64 r36)) 44 (by kernel_rfl) (fun _ => by kernel_rfl) rfl hs130 ?_
                        obtain ⟨h132, hm⟩ := need_some hm
                        refine any_val (v := .int .i64 (IntKind.i64.wrap (r36 + 9))) (v' := .int .i64 (r36 + 9)) 45 (by kernel_rfl) (fun _ => by kernel_rfl) (congrArg (Value.int .i64) (wrap_i64 h132.1 h132.2)) hs130 ?_
                        refine any_val (v := (.pointer (some ⟨b4, 9, none⟩))) (v' := (.pointer (some ⟨b4, 9, none⟩))) 47 (by kernel_rfl) (fun _ => by kernel_rfl) rfl hs130 ?_
                        refine any_R 48 (by kernel_rfl) (fun _ hS_ => runs_load (ad := ⟨b4, 9, none⟩) (v := (.int .u64 x_.m)) (by kernel_rfl) (hS_.cellAt 3 rfl rfl)) hs130 ?_
                        refine any_step 46 (by kernel_rfl) (by kernel_rfl) ?_
                        refine ops_call (pre := []) hs130 (by kernel_rfl) (get_spec (at_ := (r36 + 9)) (hv := (hs130.entAt 0 rfl viewA_at)) B _) ?_
                        rintro _ _ w133 ⟨rfl, rfl⟩ hs134
                        have hs135 : St B w [] w133 [viewA (ptr b23) (fmtW 1 (2 + i_ % 20) (2 + b_ % 60)) r50.2, kU64.row a18 c19 (fmtW 1 (2 + i_ % 20) (2 + b_ % 60)), blk b13 (.cells [(.int .i64 1), (.int .i64 (2 + i_ % 20)), (.int .i64 (2 + b_ % 60))].toArray 56 (0, 0)), blk b4 (.cells [(.int .u64 x_.k), (.int .u64 x_.l), (.int .u64 x_.o), (.int .u64 x_.s), (.int .u64 x_.a), (.int .u64 x_.b), (.int .u64 x_.c), (.int .u64 x_.d), (.int .u64 x_.e), (.int .u64 x_.m)].toArray 54 (0, 0))] := hs134
                        refine ops_done (by kernel_rfl) ⟨hs135, ?_⟩
                        refine any_val (v := (.bool (decide ((vget (fmtW 1 (2 + i_ % 20) (2 + b_ % 60)) r50.2 (r36 + 9)) = x_.m)))) (v' := (.bool (decide ((vget (fmtW 1 (2 + i_ % 20) (2 + b_ % 60)) r50.2 (r36 + 9)) = x_.m)))) 49 (by kernel_rfl) (fun _ => by kernel_rfl) rfl hs135 ?_
                        refine any_val (v := (.bool (decide ((vget (fmtW 1 (2 + i_ % 20) (2 + b_ % 60)) r50.2 (r36 + 9)) = x_.m)))) (v' := (.bool (decide ((vget (fmtW 1 (2 + i_ % 20) (2 + b_ % 60)) r50.2 (r36 + 9)) = x_.m)))) 50 (by kernel_rfl) (fun _ => by kernel_rfl) rfl hs135 ?_
                        refine any_val (v := (.bool (decide ((vget (fmtW 1 (2 + i_ % 20) (2 + b_ % 60)) r50.2 (r36 + 9)) = x_.m)))) (v' := (.bool (decide ((vget (fmtW 1 (2 + i_ % 20) (2 + b_ % 60)) r50.2 (r36 + 9)) = x_.m)))) 51 (by kernel_rfl) (fun _ => by kernel_rfl) rfl hs135 ?_
                        rcases Bool.eq_false_or_eq_true (decide ((vget (fmtW 1 (2 + i_ % 20) (2 + b_ % 60)) r50.2 (r36 + 9)) = x_.m)) with h136 | h136
                        ·
                          have h136p : (vget (fmtW 1 (2 + i_ % 20) (2 + b_ % 60)) r50.2 (r36 + 9)) = x_.m := of_decide_eq_true h136
                          replace hm := ite_yes hm h136p
                          refine any_set 113 (v := .bool true) (eq_bool_of (by kernel_rfl) h136) ?_
                          refine any_set 114 (v := .bool true) (eq_bool_of (by kernel_rfl) h136) ?_
                          refine any_set 115 (v := .bool true) (eq_bool_of (by kernel_rfl) h136) ?_
                          refine any_step 52 (by kernel_rfl) (by kernel_rfl) ?_
                          refine ops_call (pre := []) hs135 (by kernel_rfl) (works12_spec B _) ?_
                          rintro _ _ w137 ⟨rfl, rfl⟩ hs138
                          have hs139 : St B w [] w137 [viewA (ptr b23) (fmtW 1 (2 + i_ % 20) (2 + b_ % 60)) r50.2, kU64.row a18 c19 (fmtW 1 (2 + i_ % 20) (2 + b_ % 60)), blk b13 (.cells [(.int .i64 1), (.int .i64 (2 + i_ % 20)), (.int .i64 (2 + b_ % 60))].toArray 56 (0, 0)), blk b4 (.cells [(.int .u64 x_.k), (.int .u64 x_.l), (.int .u64 x_.o), (.int .u64 x_.s), (.int .u64 x_.a), (.int .u64 x_.b), (.int .u64 x_.c), (.int .u64 x_.d), (.int .u64 x_.e), (.int .u64 x_.m)].toArray 54 (0, 0))] := hs138
                          refine ops_done (by kernel_rfl) ⟨hs139, ?_⟩
                          refine any_val (v := (.bool true)) (v' := (.bool true)) 53 (by kernel_rfl) (fun _ => by kernel_rfl) rfl hs139 ?_
                          refine any_val (v := (.bool true)) (v' := (.bool true)) 54 (by kernel_rfl) (fun _ => by kernel_rfl) rfl hs139 ?_
                          refine any_done (by kernel_rfl) ?_
                          refine hK106 _ _ ?_
                          clear hK106
                          refine W.ret ?_
                          have hs140 : St B w [] w137 [] := St.take (H := []) hs139
                          refine ret_of (.bool true) (by kernel_rfl) ⟨_, ⟨congrArg Value.bool (some_inj hm), rfl⟩, hs140⟩
                        ·
                          have h136p : ¬ ((vget (fmtW 1 (2 + i_ % 20) (2 + b_ % 60)) r50.2 (r36 + 9)) = x_.m) := of_decide_eq_false h136
                          replace hm := ite_no hm h136p
                          refine any_set 113 (v := .bool false) (eq_bool_of (by kernel_rfl) h136) ?_
                          refine any_set 114 (v := .bool false) (eq_bool_of (by kernel_rfl) h136) ?_
                          refine any_set 115 (v := .bool false) (eq_bool_of (by kernel_rfl) h136) ?_
                          refine any_skip 52 (by kernel_rfl) (by kernel_rfl) hs135 ?_
                          refine any_val (v := (.bool false)) (v' := (.bool false)) 53 (by kernel_rfl) (fun _ => by kernel_rfl) rfl hs135 ?_
                          refine any_val (v := (.bool false)) (v' := (.bool false)) 54 (by kernel_rfl) (fun _ => by kernel_rfl) rfl hs135 ?_
                          refine any_done (by kernel_rfl) ?_
                          refine hK106 _ _ ?_
                          clear hK106
                          refine W.ret ?_
                          have hs141 : St B w [] w133 [] := St.take (H := []) hs135
                          refine ret_of (.bool false) (by kernel_rfl) ⟨_, ⟨congrArg Value.bool (some_inj hm), rfl⟩, hs141⟩
                      ·
                        have h131p : ¬ ((vget (fmtW 1 (2 + i_ % 20) (2 + b_ % 60)) r50.2 (r36 + 8)) = x_.e) := of_decide_eq_false h131
                        replace hm := ite_no hm h131p
                        refine any_set 104 (v := .bool false) (eq_bool_of (by kernel_rfl) h131) ?_
                        refine any_set 105 (v := .bool false) (eq_bool_of (by kernel_rfl) h131) ?_
                        refine any_set 106 (v := .bool false) (eq_bool_of (by kernel_rfl) h131) ?_
                        refine any_skip 43 (by kernel_rfl) (by kernel_rfl) hs130 ?_
                        refine any_skip 44 (by kernel_rfl) (by kernel_rfl) hs130 ?_
                        refine any_skip 45 (by kernel_rfl) (by kernel_rfl) hs130 ?_
                        refine any_skip 46 (by kernel_rfl) (by kernel_rfl) hs130 ?_
                        refine any_skip 47 (by kernel_rfl) (by kernel_rfl) hs130 ?_
                        refine any_skip 48 (by kernel_rfl) (by kernel_rfl) hs130 ?_
                        refine any_skip 49 (by kernel_rfl) (by kernel_rfl) hs130 ?_
                        refine any_val (v := (.bool false)) (v' := (.bool false)) 50 (by kernel_rfl) (fun _ => by kernel_rfl) rfl hs130 ?_
                        refine any_val (v := (.bool false)) (v' := (.bool false)) 51 (by kernel_rfl) (fun _ => by kernel_rfl) rfl hs130 ?_
                        refine any_skip 52 (by kernel_rfl) (by kernel_rfl) hs130 ?_
                        refine any_val (v := (.bool false)) (v' := (.bool false)) 53 (by kernel_rfl) (fun _ => by kernel_rfl) rfl hs130 ?_
                        refine any_val (v := (.bool false)) (v' := (.bool false)) 54 (by kernel_rfl) (fun _ => by kernel_rfl) rfl hs130 ?_
                        refine any_done (by kernel_rfl) ?_
                        refine hK106 _ _ ?_
                        clear hK106
                        refine W.ret ?_
                        have hs142 : St B w [] w128 [] := St.take (H := []) hs130
                        refine ret_of (.bool false) (by kernel_rfl) ⟨_, ⟨congrArg Value.bool (some_inj hm), rfl⟩, hs142⟩
                    ·
                      have h126p : ¬ ((vget (fmtW 1 (2 + i_ % 20) (2 + b_ % 60)) r50.2 (r36 + 3)) = x_.s) := of_decide_eq_false h126
                      replace hm := ite_no hm h126p
                      refine any_set 95 (v := .bool false) (eq_bool_of (by kernel_rfl) h126) ?_
                      refine any_set 96 (v := .bool false) (eq_bool_of (by kernel_rfl) h126) ?_
                      refine any_set 97 (v := .bool false) (eq_bool_of (by kernel_rfl) h126) ?_
                      refine any_skip 34 (by kernel_rfl) (by kernel_rfl) hs125 ?_
                      refine any_skip 35 (by kernel_rfl) (by kernel_rfl) hs125 ?_
                      refine any_skip 36 (by kernel_rfl) (by kernel_rfl) hs125 ?_
                      refine any_skip 37 (by kernel_rfl) (by kernel_rfl) hs125 ?_
                      refine any_skip 38 (by kernel_rfl) (by kernel_rfl) hs125 ?_
                      refine any_skip 39 (by kernel_rfl) (by kernel_rfl) hs125 ?_
                      refine any_skip 40 (by kernel_rfl) (by kernel_rfl) hs125 ?_
                      refine any_val (v := (.bool false)) (v' := (.bool false)) 41 (by kernel_rfl) (fun _ => by kernel_rfl) rfl hs125 ?_
                      refine any_val (v := (.bool false)) (v' := (.bool false)) 42 (by kernel_rfl) (fun _ => by kernel_rfl) rfl hs125 ?_
                      refine any_skip 43 (by kernel_rfl) (by kernel_rfl) hs125 ?_
                      refine any_skip 44 (by kernel_rfl) (by kernel_rfl) hs125 ?_
                      refine any_skip 45 (by kernel_rfl) (by kernel_rfl) hs125 ?_
                      refine any_skip 46 (by kernel_rfl) (by kernel_rfl) hs125 ?_
                      refine any_skip 47 (by kernel_rfl) (by kernel_rfl) hs125 ?_
                      refine any_skip 48 (by kernel_rfl) (by kernel_rfl) hs125 ?_
                      refine any_skip 49 (by kernel_rfl) (by kernel_rfl) hs125 ?_
                      refine any_val (v := (.bool false)) (v' := (.bool false)) 50 (by kernel_rfl) (fun _ => by kernel_rfl) rfl hs125 ?_
                      refine any_val (v := (.bool false)) (v' := (.bool false)) 51 (by kernel_rfl) (fun _ => by kernel_rfl) rfl hs125 ?_
                      refine any_skip 52 (by kernel_rfl) (by kernel_rfl) hs125 ?_
                      refine any_val (v := (.bool false)) (v' := (.bool false)) 53 (by kernel_rfl) (fun _ => by kernel_rfl) rfl hs125 ?_
                      refine any_val (v := (.bool false)) (v' := (.bool false)) 54 (by kernel_rfl) (fun _ => by kernel_rfl) rfl hs125 ?_
                      refine any_done (by kernel_rfl) ?_
                      refine hK106 _ _ ?_
                      clear hK106
                      refine W.ret ?_
                      have hs143 : St B w [] w123 [] := St.take (H := []) hs125
                      refine ret_of (.bool false) (by kernel_rfl) ⟨_, ⟨congrArg Value.bool (some_inj hm), rfl⟩, hs143⟩
                  ·
                    have h121p : ¬ ((vget (fmtW 1 (2 + i_ % 20) (2 + b_ % 60)) r50.2 (r36 + 2)) = x_.o) := of_decide_eq_false h121
                    replace hm := ite_no hm h121p
                    refine any_set 86 (v := .bool false) (eq_bool_of (by kernel_rfl) h121) ?_
                    refine any_set 87 (v := .bool false) (eq_bool_of (by kernel_rfl) h121) ?_
                    refine any_set 88 (v := .bool false) (eq_bool_of (by kernel_rfl) h121) ?_
                    refine any_skip 25 (by kernel_rfl) (by kernel_rfl) hs120 ?_
                    refine any_skip 26 (by kernel_rfl) (by kernel_rfl) hs120 ?_
                    refine any_skip 27 (by kernel_rfl) (by kernel_rfl) hs120 ?_
                    refine any_skip 28 (by kernel_rfl) (by kernel_rfl) hs120 ?_
                    refine any_skip 29 (by kernel_rfl) (by kernel_rfl) hs120 ?_
                    refine any_skip 30 (by kernel_rfl) (by kernel_rfl) hs120 ?_
                    refine any_skip 31 (by kernel_rfl) (by kernel_rfl) hs120 ?_
                    refine any_val (v := (.bool false)) (v' := (.bool false)) 32 (by kernel_rfl) (fun _ => by kernel_rfl) rfl hs120 ?_
                    refine any_val (v := (.bool false)) (v' := (.bool false)) 33 (by kernel_rfl) (fun _ => by kernel_rfl) rfl hs120 ?_
                    refine any_skip 34 (by kernel_rfl) (by kernel_rfl) hs120 ?_
                    refine any_skip 35 (by kernel_rfl) (by kernel_rfl) hs120 ?_
                    refine any_skip 36 (by kernel_rfl) (by kernel_rfl) hs120 ?_
                    refine any_skip 37 (by kernel_rfl) (by kernel_rfl) hs120 ?_
                    refine any_skip 38 (by kernel_rfl) (by kernel_rfl) hs120 ?_
                    refine any_skip 39 (by kernel_rfl) (by kernel_rfl) hs120 ?_
                    refine any_skip 40 (by kernel_rfl) (by kernel_rfl) hs120 ?_
                    refine any_val (v := (.bool false)) (v' := (.bool false)) 41 (by kernel_rfl) (fun _ => by kernel_rfl) rfl hs120 ?_
                    refine any_val (v := (.bool false)) (v' := (.bool false)) 42 (by kernel_rfl) (fun _ => by kernel_rfl) rfl hs120 ?_
                    refine any_skip 43 (by kernel_rfl) (by kernel_rfl) hs120 ?_
                    refine any_skip 44 (by kernel_rfl) (by kernel_rfl) hs120 ?_
                    refine any_skip 45 (by kernel_rfl) (by kernel_rfl) hs120 ?_
                    refine any_skip 46 (by kernel_rfl) (by kernel_rfl) hs120 ?_
                    refine any_skip 47 (by kernel_rfl) (by kernel_rfl) hs120 ?_
                    refine any_skip 48 (by kernel_rfl) (by kernel_rfl) hs120 ?_
                    refine any_skip 49 (by kernel_rfl) (by kernel_rfl) hs120 ?_
                    refine any_val (v := (.bool false)) (v' := (.bool false)) 50 (by kernel_rfl) (fun _ => by kernel_rfl) rfl hs120 ?_
                    refine any_val (v := (.bool false)) (v' := (.bool false)) 51 (by kernel_rfl) (fun _ => by kernel_rfl) rfl hs120 ?_
                    refine any_skip 52 (by kernel_rfl) (by kernel_rfl) hs120 ?_
                    refine any_val (v := (.bool false)) (v' := (.bool false)) 53 (by kernel_rfl) (fun _ => by kernel_rfl) rfl hs120 ?_
                    refine any_val (v := (.bool false)) (v' := (.bool false)) 54 (by kernel_rfl) (fun _ => by kernel_rfl) rfl hs120 ?_
                    refine any_done (by kernel_rfl) ?_
                    refine hK106 _ _ ?_
                    clear hK106
                    refine W.ret ?_
                    have hs144 : St B w [] w118 [] := St.take (H := []) hs120
                    refine ret_of (.bool false) (by kernel_rfl) ⟨_, ⟨congrArg Value.bool (some_inj hm), rfl⟩, hs144⟩
                ·
                  have h116p : ¬ ((vget (fmtW 1 (2 + i_ % 20) (2 + b_ % 60)) r50.2 (r36 + 1)) = x_.l) := of_decide_eq_false h116
                  replace hm := ite_no hm h116p
                  refine any_set 77 (v := .bool false) (eq_bool_of (by kernel_rfl) h116) ?_
                  refine any_set 78 (v := .bool false) (eq_bool_of (by kernel_rfl) h116) ?_
                  refine any_set 79 (v := .bool false) (eq_bool_of (by kernel_rfl) h116) ?_
                  refine any_skip 16 (by kernel_rfl) (by kernel_rfl) hs115 ?_
                  refine any_skip 17 (by kernel_rfl) (by kernel_rfl) hs115 ?_
                  refine any_skip 18 (by kernel_rfl) (by kernel_rfl) hs115 ?_
                  refine any_skip 19 (by kernel_rfl) (by kernel_rfl) hs115 ?_
                  refine any_skip 20 (by kernel_rfl) (by kernel_rfl) hs115 ?_
                  refine any_skip 21 (by kernel_rfl) (by kernel_rfl) hs115 ?_
                  refine any_skip 22 (by kernel_rfl) (by kernel_rfl) hs115 ?_
                  refine any_val (v := (.bool false)) (v' := (.bool false)) 23 (by kernel_rfl) (fun _ => by kernel_rfl) rfl hs115 ?_
                  refine any_val (v := (.bool false)) (v' := (.bool false)) 24 (by kernel_rfl) (fun _ => by kernel_rfl) rfl hs115 ?_
                  refine any_skip 25 (by kernel_rfl) (by kernel_rfl) hs115 ?_
                  refine any_skip 26 (by kernel_rfl) (by kernel_rfl) hs115 ?_
                  refine any_skip 27 (by kernel_rfl) (by kernel_rfl) hs115 ?_
                  refine any_skip 28 (by kernel_rfl) (by kernel_rfl) hs115 ?_
                  refine any_skip 29 (by kernel_rfl) (by kernel_rfl) hs115 ?_
                  refine any_skip 30 (by kernel_rfl) (by kernel_rfl) hs115 ?_
                  refine any_skip 31 (by kernel_rfl) (by kernel_rfl) hs115 ?_
                  refine any_val (v := (.bool false)) (v' := (.bool false)) 32 (by kernel_rfl) (fun _ => by kernel_rfl) rfl hs115 ?_
                  refine any_val (v := (.bool false)) (v' := (.bool false)) 33 (by kernel_rfl) (fun _ => by kernel_rfl) rfl hs115 ?_
                  refine any_skip 34 (by kernel_rfl) (by kernel_rfl) hs115 ?_
                  refine any_skip 35 (by kernel_rfl) (by kernel_rfl) hs115 ?_
                  refine any_skip 36 (by kernel_rfl) (by kernel_rfl) hs115 ?_
                  refine any_skip 37 (by kernel_rfl) (by kernel_rfl) hs115 ?_
                  refine any_skip 38 (by kernel_rfl) (by kernel_rfl) hs115 ?_
                  refine any_skip 39 (by kernel_rfl) (by kernel_rfl) hs115 ?_
                  refine any_skip 40 (by kernel_rfl) (by kernel_rfl) hs115 ?_
                  refine any_val (v := (.bool false)) (v' := (.bool false)) 41 (by kernel_rfl) (fun _ => by kernel_rfl) rfl hs115 ?_
                  refine any_val (v := (.bool false)) (v' := (.bool false)) 42 (by kernel_rfl) (fun _ => by kernel_rfl) rfl hs115 ?_
                  refine any_skip 43 (by kernel_rfl) (by kernel_rfl) hs115 ?_
                  refine any_skip 44 (by kernel_rfl) (by kernel_rfl) hs115 ?_
                  refine any_skip 45 (by kernel_rfl) (by kernel_rfl) hs115 ?_
                  refine any_skip 46 (by kernel_rfl) (by kernel_rfl) hs115 ?_
                  refine any_skip 47 (by kernel_rfl) (by kernel_rfl) hs115 ?_
                  refine any_skip 48 (by kernel_rfl) (by kernel_rfl) hs115 ?_
                  refine any_skip 49 (by kernel_rfl) (by kernel_rfl) hs115 ?_
                  refine any_val (v := (.bool false)) (v' := (.bool false)) 50 (by kernel_rfl) (fun _ => by kernel_rfl) rfl hs115 ?_
                  refine any_val (v := (.bool false)) (v' := (.bool false)) 51 (by kernel_rfl) (fun _ => by kernel_rfl) rfl hs115 ?_
                  refine any_skip 52 (by kernel_rfl) (by kernel_rfl) hs115 ?_
                  refine any_val (v := (.bool false)) (v' := (.bool false)) 53 (by kernel_rfl) (fun _ => by kernel_rfl) rfl hs115 ?_
                  refine any_val (v := (.bool false)) (v' := (.bool false)) 54 (by kernel_rfl) (fun _ => by kernel_rfl) rfl hs115 ?_
                  refine any_done (by kernel_rfl) ?_
                  refine hK106 _ _ ?_
                  clear hK106
                  refine W.ret ?_
                  have hs145 : St B w [] w113 [] := St.take (H := []) hs115
                  refine ret_of (.bool false) (by kernel_rfl) ⟨_, ⟨congrArg Value.bool (some_inj hm), rfl⟩, hs145⟩
              ·
                have h111p : ¬ ((vget (fmtW 1 (2 + i_ % 20) (2 + b_ % 60)) r50.2 r36) = x_.k) := of_decide_eq_false h111
                replace hm := ite_no hm h111p
                refine any_set 69 (v := .bool false) (eq_bool_of (by kernel_rfl) h111) ?_
                refine any_set 70 (v := .bool false) (eq_bool_of (by kernel_rfl) h111) ?_
                refine any_skip 7 (by kernel_rfl) (by kernel_rfl) hs110 ?_
                refine any_skip 8 (by kernel_rfl) (by kernel_rfl) hs110 ?_
                refine any_skip 9 (by kernel_rfl) (by kernel_rfl) hs110 ?_
                refine any_skip 10 (by kernel_rfl) (by kernel_rfl) hs110 ?_
                refine any_skip 11 (by kernel_rfl) (by kernel_rfl) hs110 ?_
                refine any_skip 12 (by kernel_rfl) (by kernel_rfl) hs110 ?_
                refine any_skip 13 (by kernel_rfl) (by kernel_rfl) hs110 ?_
                refine any_val (v := (.bool false)) (v' := (.bool false)) 14 (by kernel_rfl) (fun _ => by kernel_rfl) rfl hs110 ?_
                refine any_val (v := (.bool false)) (v' := (.bool false)) 15 (by kernel_rfl) (fun _ => by kernel_rfl) rfl hs110 ?_
                refine any_skip 16 (by kernel_rfl) (by kernel_rfl) hs110 ?_
                refine any_skip 17 (by kernel_rfl) (by kernel_rfl) hs110 ?_
                refine any_skip 18 (by kernel_rfl) (by kernel_rfl) hs110 ?_
                refine any_skip 19 (by kernel_rfl) (by kernel_rfl) hs110 ?_
                refine any_skip 20 (by kernel_rfl) (by kernel_rfl) hs110 ?_
                refine any_skip 21 (by kernel_rfl) (by kernel_rfl) hs110 ?_
                refine any_skip 22 (by kernel_rfl) (by kernel_rfl) hs110 ?_
                refine any_val (v := (.bool false)) (v' := (.bool false)) 23 (by kernel_rfl) (fun _ => by kernel_rfl) rfl hs110 ?_
                refine any_val (v := (.bool false)) (v' := (.bool false)) 24 (by kernel_rfl) (fun _ => by kernel_rfl) rfl hs110 ?_
                refine any_skip 25 (by kernel_rfl) (by kernel_rfl) hs110 ?_
                refine any_skip 26 (by kernel_rfl) (by kernel_rfl) hs110 ?_
                refine any_skip 27 (by kernel_rfl) (by kernel_rfl) hs110 ?_
                refine any_skip 28 (by kernel_rfl) (by kernel_rfl) hs110 ?_
                refine any_skip 29 (by kernel_rfl) (by kernel_rfl) hs110 ?_
                refine any_skip 30 (by kernel_rfl) (by kernel_rfl) hs110 ?_
                refine any_skip 31 (by kernel_rfl) (by kernel_rfl) hs110 ?_
                refine any_val (v := (.bool false)) (v' := (.bool false)) 32 (by kernel_rfl) (fun _ => by kernel_rfl) rfl hs110 ?_
                refine any_val (v := (.bool false)) (v' := (.bool false)) 33 (by kernel_rfl) (fun _ => by kernel_rfl) rfl hs110 ?_
                refine any_skip 34 (by kernel_rfl) (by kernel_rfl) hs110 ?_
                refine any_skip 35 (by kernel_rfl) (by kernel_rfl) hs110 ?_
                refine any_skip 36 (by kernel_rfl) (by kernel_rfl) hs110 ?_
                refine any_skip 37 (by kernel_rfl) (by kernel_rfl) hs110 ?_
                refine any_skip 38 (by kernel_rfl) (by kernel_rfl) hs110 ?_
                refine any_skip 39 (by kernel_rfl) (by kernel_rfl) hs110 ?_
                refine any_skip 40 (by kernel_rfl) (by kernel_rfl) hs110 ?_
                refine any_val (v := (.bool false)) (v' := (.bool false)) 41 (by kernel_rfl) (fun _ => by kernel_rfl) rfl hs110 ?_
                refine any_val (v := (.bool false)) (v' := (.bool false)) 42 (by kernel_rfl) (fun _ => by kernel_rfl) rfl hs110 ?_
                refine any_skip 43 (by kernel_rfl) (by kernel_rfl) hs110 ?_
                refine any_skip 44 (by kernel_rfl) (by kernel_rfl) hs110 ?_
                refine any_skip 45 (by kernel_rfl) (by kernel_rfl) hs110 ?_
                refine any_skip 46 (by kernel_rfl) (by kernel_rfl) hs110 ?_
                refine any_skip 47 (by kernel_rfl) (by kernel_rfl) hs110 ?_
                refine any_skip 48 (by kernel_rfl) (by kernel_rfl) hs110 ?_
                refine any_skip 49 (by kernel_rfl) (by kernel_rfl) hs110 ?_
                refine any_val (v := (.bool false)) (v' := (.bool false)) 50 (by kernel_rfl) (fun _ => by kernel_rfl) rfl hs110 ?_
                refine any_val (v := (.bool false)) (v' := (.bool false)) 51 (by kernel_rfl) (fun _ => by kernel_rfl) rfl hs110 ?_
                refine any_skip 52 (by kernel_rfl) (by kernel_rfl) hs110 ?_
                refine any_val (v := (.bool false)) (v' := (.bool false)) 53 (by kernel_rfl) (fun _ => by kernel_rfl) rfl hs110 ?_
                refine any_val (v := (.bool false)) (v' := (.bool false)) 54 (by kernel_rfl) (fun _ => by kernel_rfl) rfl hs110 ?_
                refine any_done (by kernel_rfl) ?_
                refine hK106 _ _ ?_
                clear hK106
                refine W.ret ?_
                have hs146 : St B w [] w108 [] := St.take (H := []) hs110
                refine ret_of (.bool false) (by kernel_rfl) ⟨_, ⟨congrArg Value.bool (some_inj hm), rfl⟩, hs146⟩
            ·
              have h103p : ¬ ((vget (fmtW 1 (2 + i_ % 20) (2 + b_ % 60)) r50.2 ((r36 + 4) + 3)) = x_.d) := of_decide_eq_false (bnot_true h103)
              replace hm := ite_no hm h103p
              refine W.seq fun K147 hK147 => ?_
              refine W.region ?_
              refine ops_run 1 (by kernel_rfl) ?_
              refine ops_done (by kernel_rfl) ?_
              refine hK147 _ _ ?_
              clear hK147
              refine W.ret (ret_block (ret_seq (ret_seq (ret_block (ret_seq ?_)))))
              have hs148 : St B w [] w100 [] := St.take (H := []) hs102
              refine ret_of (.bool false) (by kernel_rfl) ⟨_, ⟨congrArg Value.bool (some_inj hm), rfl⟩, hs148⟩
          ·
            have h92p : ¬ ((vget (fmtW 1 (2 + i_ % 20) (2 + b_ % 60)) r50.2 ((r36 + 4) + 2)) = x_.c) := of_decide_eq_false (bnot_true h92)
            replace hm := ite_no hm h92p
            refine W.seq fun K149 hK149 => ?_
            refine W.region ?_
            refine ops_run 1 (by kernel_rfl) ?_
            refine ops_done (by kernel_rfl) ?_
            refine hK149 _ _ ?_
            clear hK149
            refine W.ret (ret_block (ret_seq (ret_seq (ret_block (ret_seq ?_)))))
            have hs150 : St B w [] w89 [] := St.take (H := []) hs91
            refine ret_of (.bool false) (by kernel_rfl) ⟨_, ⟨congrArg Value.bool (some_inj hm), rfl⟩, hs150⟩
        ·
          have h81p : ¬ ((vget (fmtW 1 (2 + i_ % 20) (2 + b_ % 60)) r50.2 ((r36 + 4) + 1)) = x_.b) := of_decide_eq_false (bnot_true h81)
          replace hm := ite_no hm h81p
          refine W.seq fun K151 hK151 => ?_
          refine W.region ?_
          refine ops_run 1 (by kernel_rfl) ?_
          refine ops_done (by kernel_rfl) ?_
          refine hK151 _ _ ?_
          clear hK151
          refine W.ret (ret_block (ret_seq (ret_seq (ret_block (ret_seq ?_)))))
          have hs152 : St B w [] w78 [] := St.take (H := []) hs80
          refine ret_of (.bool false) (by kernel_rfl) ⟨_, ⟨congrArg Value.bool (some_inj hm), rfl⟩, hs152⟩
      ·
        have h70p : ¬ ((vget (fmtW 1 (2 + i_ % 20) (2 + b_ % 60)) r50.2 ((r36 + 4) + 0)) = x_.a) := of_decide_eq_false (bnot_true h70)
        replace hm := ite_no hm h70p
        refine W.seq fun K153 hK153 => ?_
        refine W.region ?_
        refine ops_run 1 (by kernel_rfl) ?_
        refine ops_done (by kernel_rfl) ?_
        refine hK153 _ _ ?_
        clear hK153
        refine W.ret (ret_block (ret_seq (ret_seq (ret_block (ret_seq ?_)))))
        have hs154 : St B w [] w67 [] := St.take (H := []) hs69
        refine ret_of (.bool false) (by kernel_rfl) ⟨_, ⟨congrArg Value.bool (some_inj hm), rfl⟩, hs154⟩
    ·
      have h57p : ¬ (r50.1 = 0) := of_decide_eq_false (bnot_true h57)
      replace hm := ite_no hm h57p
      refine W.seq fun K155 hK155 => ?_
      refine W.region ?_
      refine ops_R (runs_loadAgg (ad := ⟨b13, 0, none⟩) (cs := [(.int .i64 1), (.int .i64 (2 + i_ % 20)), (.int .i64 (2 + b_ % 60))]) (by kernel_rfl) (cells_sub (hs56.heapAt 2 rfl) rfl)) ?_
      refine ops_R (runs_loadAgg (ad := ⟨b4, 0, none⟩) (cs := [(.int .u64 x_.k), (.int .u64 x_.l), (.int .u64 x_.o), (.int .u64 x_.s), (.int .u64 x_.a), (.int .u64 x_.b), (.int .u64 x_.c), (.int .u64 x_.d), (.int .u64 x_.e), (.int .u64 x_.m)]) (by kernel_rfl) (cells_sub (hs56.heapAt 3 rfl) rfl)) ?_
      refine ops_call (pre := []) hs56 (by kernel_rfl) (right_spec (gw := 1) (gi := (2 + i_ % 20)) (gb := (2 + b_ % 60)) (x_ := ⟨x_.k, x_.l, x_.o, x_.s, x_.a, x_.b, x_.c, x_.d, x_.e, x_.m⟩) B _) ?_
      rintro _ _ w156 ⟨rfl, rfl⟩ hs157
      have hs158 : St B w [] w156 [viewA (ptr b23) (fmtW 1 (2 + i_ % 20) (2 + b_ % 60)) r50.2, kU64.row a18 c19 (fmtW 1 (2 + i_ % 20) (2 + b_ % 60)), blk b13 (.cells [(.int .i64 1), (.int .i64 (2 + i_ % 20)), (.int .i64 (2 + b_ % 60))].toArray 56 (0, 0)), blk b4 (.cells [(.int .u64 x_.k), (.int .u64 x_.l), (.int .u64 x_.o), (.int .u64 x_.s), (.int .u64 x_.a), (.int .u64 x_.b), (.int .u64 x_.c), (.int .u64 x_.d), (.int .u64 x_.e), (.int .u64 x_.m)].toArray 54 (0, 0))] := hs157
      refine ops_run 2 (by kernel_rfl) ?_
      rcases Bool.eq_false_or_eq_true (!(decide (RightP 1 (2 + i_ % 20) (2 + b_ % 60) ⟨x_.k, x_.l, x_.o, x_.s, x_.a, x_.b, x_.c, x_.d, x_.e, x_.m⟩))) with h159 | h159
      rotate_left
      ·
        have h159p : RightP 1 (2 + i_ % 20) (2 + b_ % 60) ⟨x_.k, x_.l, x_.o, x_.s, x_.a, x_.b, x_.c, x_.d, x_.e, x_.m⟩ := of_decide_eq_true (bnot_false h159)
        replace hm := ite_yes hm h159p
        refine ops_set 46 (v := .bool false) (eq_bool_of (by kernel_rfl) h159) ?_
        refine ops_set 45 (v := .bool false) (eq_bool_of (by kernel_rfl) h159) ?_
        refine ops_run 3 (by kernel_rfl) ?_
        refine ops_done (by kernel_rfl) ?_
        refine hK155 _ _ ?_
        clear hK155
        refine W.ret (ret_seq ?_)
        have hs160 : St B w [] w156 [] := St.take (H := []) hs158
        refine ret_of (.bool false) (by kernel_rfl) ⟨_, ⟨congrArg Value.bool (some_inj hm), rfl⟩, hs160⟩
      ·
        have h159p : ¬ (RightP 1 (2 + i_ % 20) (2 + b_ % 60) ⟨x_.k, x_.l, x_.o, x_.s, x_.a, x_.b, x_.c, x_.d, x_.e, x_.m⟩) := of_decide_eq_false (bnot_true h159)
        replace hm := ite_no hm h159p
        refine ops_set 46 (v := .bool true) (eq_bool_of (by kernel_rfl) h159) ?_
        refine ops_set 45 (v := .bool true) (eq_bool_of (by kernel_rfl) h159) ?_
        refine ops_call (pre := []) hs158 (by kernel_rfl) (works12_spec B _) ?_
        rintro _ _ w161 ⟨rfl, rfl⟩ hs162
        have hs163 : St B w [] w161 [viewA (ptr b23) (fmtW 1 (2 + i_ % 20) (2 + b_ % 60)) r50.2, kU64.row a18 c19 (fmtW 1 (2 + i_ % 20) (2 + b_ % 60)), blk b13 (.cells [(.int .i64 1), (.int .i64 (2 + i_ % 20)), (.int .i64 (2 + b_ % 60))].toArray 56 (0, 0)), blk b4 (.cells [(.int .u64 x_.k), (.int .u64 x_.l), (.int .u64 x_.o), (.int .u64 x_.s), (.int .u64 x_.a), (.int .u64 x_.b), (.int .u64 x_.c), (.int .u64 x_.d), (.int .u64 x_.e), (.int .u64 x_.m)].toArray 54 (0, 0))] := hs162
        refine ops_run 2 (by kernel_rfl) ?_
        refine ops_done (by kernel_rfl) ?_
        refine hK155 _ _ ?_
        clear hK155
        refine W.ret (ret_seq ?_)
        have hs164 : St B w [] w161 [] := St.take (H := []) hs163
        refine ret_of (.bool true) (by kernel_rfl) ⟨_, ⟨congrArg Value.bool (some_inj hm), rfl⟩, hs164⟩

end Go.Proofs.Ythimamnblklkbaa
