/- What the code computes, by a program. -/
import Derived.Test.YthimamnblklkbaaAIm
namespace Go.Proofs.Ythimamnblklkbaa
open Go Go.RowKit
set_option linter.unusedSimpArgs false
set_option linter.unusedVariables false

def inodeback_J3 (i_ : Int) (b_ : Int) (r28 : List Int) (r46 : Int) (l64 : List (Int × Int)) : Option (Bool) :=
  (some (iwipeM r28 l64 1 (2 + i_ % 20) (2 + b_ % 60) r46)).bind fun r91 =>
if r91.1 = 0 then ((some (igetM r28 r91.2 1 (2 + i_ % 20) (2 + b_ % 60) r46)).bind fun r101 =>
if r101.2 = 4 then (if RightP 1 (2 + i_ % 20) (2 + b_ % 60) ⟨0, 0, 0, 0, 0, 0, 0, 0, 0, 0⟩ then (some false) else (some true)) else (some false)) else (some false)

def inodeback_B0 (i_ : Int) (b_ : Int) (r28 : List Int) (r46 : Int) (l64 : List (Int × Int)) (r68 : Int) (k130 : Int → Option (Bool)) (p129 : Int) : Option (Bool) :=
  if p129 < (r28.length : Int) then (if p129 < r68 then (need (0 ≤ p129 ∧ p129 < (((vflat r28 l64).length) : Int)) <|
need (0 ≤ p129 ∧ p129 < (r28.length : Int)) <|
if ((vflat r28 l64).getD p129.toNat 0) = (r28.getD p129.toNat 0) then (need (-9223372036854775808 ≤ (p129 + 1) ∧ (p129 + 1) ≤ 9223372036854775807) <|
k130 (p129 + 1)) else (some false)) else (need (-9223372036854775808 ≤ (r68 + 10) ∧ (r68 + 10) ≤ 9223372036854775807) <|
if p129 ≥ (r68 + 10) then (need (0 ≤ p129 ∧ p129 < (((vflat r28 l64).length) : Int)) <|
need (0 ≤ p129 ∧ p129 < (r28.length : Int)) <|
if ((vflat r28 l64).getD p129.toNat 0) = (r28.getD p129.toNat 0) then (need (-9223372036854775808 ≤ (p129 + 1) ∧ (p129 + 1) ≤ 9223372036854775807) <|
k130 (p129 + 1)) else (some false)) else (need (-9223372036854775808 ≤ (p129 + 1) ∧ (p129 + 1) ≤ 9223372036854775807) <|
k130 (p129 + 1)))) else (inodeback_J3 i_ b_ r28 r46 l64)

def inodeback_J2 (i_ : Int) (b_ : Int) (r28 : List Int) (r46 : Int) (l64 : List (Int × Int)) : Option (Bool) :=
  (some (placeOf 8 1 (2 + i_ % 20) (2 + b_ % 60) r46)).bind fun r68 =>
if r68 < 0 then (some false) else (if (((vflat r28 l64).length) : Int) = (r28.length : Int) then (iter (fun k_ s_ => inodeback_B0 i_ b_ r28 r46 l64 r68 k_ s_) FUEL 0) else (some false))

def inodeback_J1 (i_ : Int) (b_ : Int) (x_ : Nd) (r28 : List Int) (r46 : Int) (r49 : Int × List (Int × Int)) : Option (Bool) :=
  if r49.1 = 0 then ((some (igetM r28 r49.2 1 (2 + i_ % 20) (2 + b_ % 60) r46)).bind fun r165 =>
if r165.2 = 0 then (if r165.1.k = x_.k ∧ r165.1.l = x_.l ∧ r165.1.o = x_.o ∧ r165.1.s = x_.s ∧ (r165.1.a = x_.a ∧ r165.1.b = x_.b ∧ r165.1.c = x_.c ∧ r165.1.d = x_.d) ∧ r165.1.e = x_.e ∧ r165.1.m = x_.m then (if (r49.2.length : Int) > 10 then (some false) else ((some (iputM r28 r49.2 1 (2 + i_ % 20) (2 + b_ % 60) r46 ⟨x_.k, x_.l, x_.o, x_.s, x_.a, x_.b, x_.c, x_.d, x_.e, x_.m⟩)).bind fun r184 =>
if r184.1 = 0 then (if (r184.2.length : Int) = (r49.2.length : Int) then (inodeback_J2 i_ b_ r28 r46 r184.2) else (some false)) else (some false))) else (some false)) else (some false)) else (inodeback_J2 i_ b_ r28 r46 r49.2)

def inodeback_M (i_ : Int) (b_ : Int) (ts : List TTn) (n_ : Int) (x_ : Nd) : Option (Bool) :=
  if (ts.length : Int) > 60 then (some true) else (need (0 ≤ i_ ∧ i_ ≤ 255) <|
need (0 ≤ b_ ∧ b_ ≤ 255) <|
(image_M 1 (2 + i_ % 20) (2 + b_ % 60) ts 0).bind fun r28 =>
need (r28.length ≤ 17592186044415) <|
need (-9223372036854775808 ≤ n_ ∧ n_ ≤ 9223372036854775807) <|
need (-9223372036854775808 ≤ ((2 + i_ % 20) - 1) ∧ ((2 + i_ % 20) - 1) ≤ 9223372036854775807) <|
need (¬ (((2 + i_ % 20) - 1) = 0)) <|
need (-9223372036854775808 ≤ (1 + (n_.tmod ((2 + i_ % 20) - 1))) ∧ (1 + (n_.tmod ((2 + i_ % 20) - 1))) ≤ 9223372036854775807) <|
(some (1 + (n_.tmod ((2 + i_ % 20) - 1)))).bind fun r46 =>
(some (iputM r28 ([]) 1 (2 + i_ % 20) (2 + b_ % 60) r46 ⟨x_.k, x_.l, x_.o, x_.s, x_.a, x_.b, x_.c, x_.d, x_.e, x_.m⟩)).bind fun r49 =>
if ((r49.1 = 0) ↔ (RightP 1 (2 + i_ % 20) (2 + b_ % 60) ⟨x_.k, x_.l, x_.o, x_.s, x_.a, x_.b, x_.c, x_.d, x_.e, x_.m⟩)) then (if r49.1 = 0 then (inodeback_J1 i_ b_ x_ r28 r46 r49) else (if r49.1 = 1 then (if (r49.2.length : Int) > 0 then (some false) else (inodeback_J1 i_ b_ x_ r28 r46 r49)) else (some false))) else (some false))

set_option maxRecDepth 20000 in
set_option maxHeartbeats 4000000 in
set_option linter.unusedVariables false in
theorem inodeback_walk {i_ : Int} {b_ : Int} {ts : List TTn} {n_ : Int} {x_ : Nd} {ta : Option Addr} {tc : Nat}  (B : Nat) (w : World) (hB : w.heap.size = B) (ht : CellsAt ta (kTn.cells ts) w) (hm : inodeback_M i_ b_ ts n_ x_ = some true) : Spec Try.prog 13 #[(.int .u8 i_), (.int .u8 b_), (.slice ta ts.length tc), (.int .u8 n_), (.agg #[(.int .u64 x_.k), (.int .u64 x_.l), (.int .u64 x_.o), (.int .u64 x_.s), (.int .u64 x_.a), (.int .u64 x_.b), (.int .u64 x_.c), (.int .u64 x_.d), (.int .u64 x_.e), (.int .u64 x_.m)])] B w [] (fun v H' => v = .bool true ∧ H' = []) := by
  refine spec_Q Try.func13 rfl fun hs => ?_
  unfold inodeback_M at hm
  refine W.seq fun K1 hK1 => ?_
  refine W.region ?_
  refine ops_new (fun b => .pointer (some ⟨b, 0, none⟩)) (.cells [(.int .u64 x_.k), (.int .u64 x_.l), (.int .u64 x_.o), (.int .u64 x_.s), (.int .u64 x_.a), (.int .u64 x_.b), (.int .u64 x_.c), (.int .u64 x_.d), (.int .u64 x_.e), (.int .u64 x_.m)].toArray 54 (0, 0)) hs (by kernel_rfl) (fun b4 w2 hs3 => ?_)
  refine ops_run 1 (by kernel_rfl) ?_
  refine ops_done (by kernel_rfl) ?_
  refine hK1 _ _ ?_
  clear hK1
  refine W.seq fun K5 hK5 => ?_
  refine W.seq fun K6 hK6 => ?_
  refine W.region ?_
  refine ops_run 3 (by kernel_rfl) ?_
  refine ops_done (by kernel_rfl) ?_
  refine hK6 _ _ ?_
  clear hK6
  refine W.cond (decide ((ts.length : Int) > 60)) (by kernel_rfl) (fun h7 => ?_) (fun h7 => ?_)
  ·
    have h7p : (ts.length : Int) > 60 := of_decide_eq_true h7
    replace hm := ite_yes hm h7p
    refine W.seq fun K8 hK8 => ?_
    refine W.region ?_
    refine ops_call (pre := []) hs3 (by kernel_rfl) (works12_spec B _) ?_
    rintro _ _ w9 ⟨rfl, rfl⟩ hs10
    have hs11 : St B w [] w9 [blk b4 (.cells [(.int .u64 x_.k), (.int .u64 x_.l), (.int .u64 x_.o), (.int .u64 x_.s), (.int .u64 x_.a), (.int .u64 x_.b), (.int .u64 x_.c), (.int .u64 x_.d), (.int .u64 x_.e), (.int .u64 x_.m)].toArray 54 (0, 0))] := hs10
    refine ops_run 1 (by kernel_rfl) ?_
    refine ops_done (by kernel_rfl) ?_
    refine hK8 _ _ ?_
    clear hK8
    refine W.ret (ret_seq ?_)
    have hs12 : St B w [] w9 [] := St.take (H := []) hs11
    refine ret_of (.bool true) (by kernel_rfl) ⟨_, ⟨congrArg Value.bool (some_inj hm), rfl⟩, hs12⟩
  ·
    have h7p : ¬ ((ts.length : Int) > 60) := of_decide_eq_false h7
    replace hm := ite_no hm h7p
    refine W.skip ?_
    refine hK5 _ _ ?_
    clear hK5
    refine W.seq fun K13 hK13 => ?_
    refine W.region ?_
    refine ops_run 2 (by kernel_rfl) ?_
    obtain ⟨h14, hm⟩ := need_some hm
    obtain ⟨h15, hm⟩ := need_some hm
    refine ops_call (pre := []) hs3 (by kernel_rfl) (small_spec (x_ := i_) (y_ := b_) (hx := h14) (hy := h15) B _) ?_
    rintro _ _ w16 ⟨rfl, rfl⟩ hs17
    have hs18 : St B w [] w16 [blk b4 (.cells [(.int .u64 x_.k), (.int .u64 x_.l), (.int .u64 x_.o), (.int .u64 x_.s), (.int .u64 x_.a), (.int .u64 x_.b), (.int .u64 x_.c), (.int .u64 x_.d), (.int .u64 x_.e), (.int .u64 x_.m)].toArray 54 (0, 0))] := hs17
    refine ops_new (fun b => .pointer (some ⟨b, 0, none⟩)) (.cells [(.int .i64 0), (.int .i64 0), (.int .i64 0)].toArray 56 (0, 0)) hs18 (by kernel_rfl) (fun b21 w19 hs20 => ?_)
    refine ops_store (off := 0) (cs := [(.int .i64 0), (.int .i64 0), (.int .i64 0)]) (vs := [(.int .i64 1), (.int .i64 (2 + i_ % 20)), (.int .i64 (2 + b_ % 60))]) hs20 (by kernel_rfl) (by simp) rfl (fun w22 hs23 => ?_)
    have hs24 : St B w [] w22 [blk b21 (.cells [(.int .i64 1), (.int .i64 (2 + i_ % 20)), (.int .i64 (2 + b_ % 60))].toArray 56 (0, 0)), blk b4 (.cells [(.int .u64 x_.k), (.int .u64 x_.l), (.int .u64 x_.o), (.int .u64 x_.s), (.int .u64 x_.a), (.int .u64 x_.b), (.int .u64 x_.c), (.int .u64 x_.d), (.int .u64 x_.e), (.int .u64 x_.m)].toArray 54 (0, 0))] := hs23
    refine ops_done (by kernel_rfl) ?_
    refine hK13 _ _ ?_
    clear hK13
    refine W.seq fun K25 hK25 => ?_
    refine W.region ?_
    refine ops_R (runs_loadAgg (ad := ⟨b21, 0, none⟩) (cs := [(.int .i64 1), (.int .i64 (2 + i_ % 20)), (.int .i64 (2 + b_ % 60))]) (by kernel_rfl) (cells_sub (hs24.heapAt 0 rfl) rfl)) ?_
    refine ops_run 1 (by kernel_rfl) ?_
    obtain ⟨r28, h29, hm⟩ := bind_some hm
    refine ops_call (pre := []) hs24 (by kernel_rfl) (image_walk (tc := tc) (ht := (hs24.oldCells ht)) (hm := h29) B _) ?_
    rintro _ _ w30 ⟨a26, c27, rfl, rfl⟩ hs31
    have hs32 : St B w [] w30 [kU64.row a26 c27 r28, blk b21 (.cells [(.int .i64 1), (.int .i64 (2 + i_ % 20)), (.int .i64 (2 + b_ % 60))].toArray 56 (0, 0)), blk b4 (.cells [(.int .u64 x_.k), (.int .u64 x_.l), (.int .u64 x_.o), (.int .u64 x_.s), (.int .u64 x_.a), (.int .u64 x_.b), (.int .u64 x_.c), (.int .u64 x_.d), (.int .u64 x_.e), (.int .u64 x_.m)].toArray 54 (0, 0))] := hs31
    refine ops_run 1 (by kernel_rfl) ?_
    refine ops_done (by kernel_rfl) ?_
    refine hK25 _ _ ?_
    clear hK25
    refine W.seq fun K33 hK33 => ?_
    refine W.region ?_
    refine ops_run 1 (by kernel_rfl) ?_
    obtain ⟨h35, hm⟩ := need_some hm
    refine ops_call (pre := []) hs32 (by kernel_rfl) (new_spec (hc := (St.kcells kU64 hs32 0 rfl)) (hn := (St.capnil kU64 hs32 0 rfl)) (hsz := h35) B _) ?_
    rintro _ _ w36 ⟨b34, rfl, rfl⟩ hs37
    have hs38 : St B w [] w36 [viewA (ptr b34) r28 ([]), kU64.row a26 c27 r28, blk b21 (.cells [(.int .i64 1), (.int .i64 (2 + i_ % 20)), (.int .i64 (2 + b_ % 60))].toArray 56 (0, 0)), blk b4 (.cells [(.int .u64 x_.k), (.int .u64 x_.l), (.int .u64 x_.o), (.int .u64 x_.s), (.int .u64 x_.a), (.int .u64 x_.b), (.int .u64 x_.c), (.int .u64 x_.d), (.int .u64 x_.e), (.int .u64 x_.m)].toArray 54 (0, 0))] := hs37
    refine ops_run 1 (by kernel_rfl) ?_
    refine ops_done (by kernel_rfl) ?_
    refine hK33 _ _ ?_
    clear hK33
    refine W.seq fun K39 hK39 => ?_
    refine W.seq fun K40 hK40 => ?_
    refine W.region ?_
    refine ops_run 2 (by kernel_rfl) ?_
    refine ops_done (by kernel_rfl) ?_
    refine hK40 _ _ ?_
    clear hK40
    refine W.cond_false false (by kernel_rfl) rfl ?_
    refine W.skip ?_
    refine hK39 _ _ ?_
    clear hK39
    refine W.seq fun K41 hK41 => ?_
    refine W.region ?_
    refine ops_run 1 (by kernel_rfl) ?_
    obtain ⟨h42, hm⟩ := need_some hm
    refine ops_val (v := .int .i64 (IntKind.i64.wrap n_)) (v' := .int .i64 n_) (by kernel_rfl) (congrArg (Value.int .i64) (wrap_i64 h42.1 h42.2)) ?_
    refine ops_run 1 (by kernel_rfl) ?_
    refine ops_R (runs_load (ad := ⟨b21, 1, none⟩) (v := (.int .i64 (2 + i_ % 20))) (by kernel_rfl) (hs38.cellAt 2 rfl rfl)) ?_
    obtain ⟨h43, hm⟩ := need_some hm
    refine ops_val (v := .int .i64 (IntKind.i64.wrap ((2 + i_ % 20) - 1))) (v' := .int .i64 ((2 + i_ % 20) - 1)) (by kernel_rfl) (congrArg (Value.int .i64) (wrap_i64 h43.1 h43.2)) ?_
    obtain ⟨h44, hm⟩ := need_some hm
    refine ops_R (v := .int .i64 (n_.tmod ((2 + i_ % 20) - 1))) (runs_rem (k := .i64) (a := n_) (b := ((2 + i_ % 20) - 1)) (by kernel_rfl) h44 rfl) ?_
    obtain ⟨h45, hm⟩ := need_some hm
    refine ops_val (v := .int .i64 (IntKind.i64.wrap (1 + (n_.tmod ((2 + i_ % 20) - 1))))) (v' := .int .i64 (1 + (n_.tmod ((2 + i_ % 20) - 1)))) (by kernel_rfl) (congrArg (Value.int .i64) (wrap_i64 h45.1 h45.2)) ?_
    refine ops_run 1 (by kernel_rfl) ?_
    obtain ⟨r46, h47, hm⟩ := bind_some hm
    replace h47 := some_inj h47
    refine ops_set 14 (v := .int .i64 r46) (Eq.trans (by kernel_rfl) (congrArg (Value.int .i64) h47)) ?_
    refine ops_done (by kernel_rfl) ?_
    refine hK41 _ _ ?_
    clear hK41
    refine W.seq fun K48 hK48 => ?_
    refine W.region ?_
    refine ops_run 1 (by kernel_rfl) ?_
    refine ops_R (runs_loadAgg (ad := ⟨b21, 0, none⟩) (cs := [(.int .i64 1), (.int .i64 (2 + i_ % 20)), (.int .i64 (2 + b_ % 60))]) (by kernel_rfl) (cells_sub (hs38.heapAt 2 rfl) rfl)) ?_
    refine ops_run 1 (by kernel_rfl) ?_
    refine ops_R (runs_loadAgg (ad := ⟨b4, 0, none⟩) (cs := [(.int .u64 x_.k), (.int .u64 x_.l), (.int .u64 x_.o), (.int .u64 x_.s), (.int .u64 x_.a), (.int .u64 x_.b), (.int .u64 x_.c), (.int .u64 x_.d), (.int .u64 x_.e), (.int .u64 x_.m)]) (by kernel_rfl) (cells_sub (hs38.heapAt 3 rfl) rfl)) ?_
    obtain ⟨r49, h50, hm⟩ := bind_some hm
    replace h50 := some_inj h50
    refine ops_call (pre := [viewA (ptr b34) r28 ([])]) hs38 (by kernel_rfl) (ip_spec (b := b34) (img := r28) (l := []) (gw := 1) (gi := (2 + i_ % 20)) (gb := (2 + b_ % 60)) (n_ := r46) (x_ := ⟨x_.k, x_.l, x_.o, x_.s, x_.a, x_.b, x_.c, x_.d, x_.e, x_.m⟩) B _) ?_
    rintro _ _ w53 ⟨hv51, hH52⟩ hs54
    rw [h50] at hv51
    try rw [h50] at hH52
    subst hv51 hH52
    have hs55 : St B w [] w53 [viewA (ptr b34) r28 r49.2, kU64.row a26 c27 r28, blk b21 (.cells [(.int .i64 1), (.int .i64 (2 + i_ % 20)), (.int .i64 (2 + b_ % 60))].toArray 56 (0, 0)), blk b4 (.cells [(.int .u64 x_.k), (.int .u64 x_.l), (.int .u64 x_.o), (.int .u64 x_.s), (.int .u64 x_.a), (.int .u64 x_.b), (.int .u64 x_.c), (.int .u64 x_.d), (.int .u64 x_.e), (.int .u64 x_.m)].toArray 54 (0, 0))] := hs54
    refine ops_run 1 (by kernel_rfl) ?_
    refine ops_done (by kernel_rfl) ?_
    refine hK48 _ _ ?_
    clear hK48
    refine W.seq_join (fun s_ w_ => (∃ us, s_ = slots 171 [(9, (.pointer (some ⟨b4, 0, none⟩))), (11, (.pointer (some ⟨b21, 0, none⟩))), (12, (.slice a26 r28.length c27)), (13, (.pointer (some ⟨b34, 0, none⟩))), (14, (.int .i64 r46)), (15, (.int .i64 r49.1))] us) ∧ St B w [] w_ [viewA (ptr b34) r28 r49.2, kU64.row a26 c27 r28, blk b21 (.cells [(.int .i64 1), (.int .i64 (2 + i_ % 20)), (.int .i64 (2 + b_ % 60))].toArray 56 (0, 0)), blk b4 (.cells [(.int .u64 x_.k), (.int .u64 x_.l), (.int .u64 x_.o), (.int .u64 x_.s), (.int .u64 x_.a), (.int .u64 x_.b), (.int .u64 x_.c), (.int .u64 x_.d), (.int .u64 x_.e), (.int .u64 x_.m)].toArray 54 (0, 0))] ∧ inodeback_J1 i_ b_ x_ r28 r46 r49 = some true) ?_ ?_
    ·
      rintro _ w56 ⟨⟨us, rfl⟩, hs57, hm⟩
      unfold inodeback_J1 at hm
      refine W.seq fun K58 hK58 => ?_
      refine W.region ?_
      refine ops_run 1 (by kernel_rfl) ?_
      refine ops_call (pre := []) hs57 (by kernel_rfl) (writes_spec (hv := (hs57.entAt 0 rfl viewA_at)) B _) ?_
      rintro _ _ w61 ⟨a59, c60, rfl, rfl⟩ hs62
      have hs63 : St B w [] w61 [kWr.row a59 c60 r49.2, viewA (ptr b34) r28 r49.2, kU64.row a26 c27 r28, blk b21 (.cells [(.int .i64 1), (.int .i64 (2 + i_ % 20)), (.int .i64 (2 + b_ % 60))].toArray 56 (0, 0)), blk b4 (.cells [(.int .u64 x_.k), (.int .u64 x_.l), (.int .u64 x_.o), (.int .u64 x_.s), (.int .u64 x_.a), (.int .u64 x_.b), (.int .u64 x_.c), (.int .u64 x_.d), (.int .u64 x_.e), (.int .u64 x_.m)].toArray 54 (0, 0))] := hs62
      refine ops_run 2 (by kernel_rfl) ?_
      refine ops_done (by kernel_rfl) ?_
      refine hK58 _ _ ?_
      clear hK58
      refine W.seq_join (fun s_ w_ => ∃ (l64 : List (Int × Int)), (∃ us, s_ = slots 171 [(11, (.pointer (some ⟨b21, 0, none⟩))), (12, (.slice a26 r28.length c27)), (13, (.pointer (some ⟨b34, 0, none⟩))), (14, (.int .i64 r46))] us) ∧ St B w [] w_ [kWr.row a59 c60 r49.2, viewA (ptr b34) r28 l64, kU64.row a26 c27 r28, blk b21 (.cells [(.int .i64 1), (.int .i64 (2 + i_ % 20)), (.int .i64 (2 + b_ % 60))].toArray 56 (0, 0)), blk b4 (.cells [(.int .u64 x_.k), (.int .u64 x_.l), (.int .u64 x_.o), (.int .u64 x_.s), (.int .u64 x_.a), (.int .u64 x_.b), (.int .u64 x_.c), (.int .u64 x_.d), (.int .u64 x_.e), (.int .u64 x_.m)].toArray 54 (0, 0))] ∧ inodeback_J2 i_ b_ r28 r46 l64 = some true) ?_ ?_
      ·
        rintro _ w65 ⟨l64, ⟨us, rfl⟩, hs66, hm⟩
        unfold inodeback_J2 at hm
        refine W.seq fun K67 hK67 => ?_
        refine W.region ?_
        refine ops_R (runs_loadAgg (ad := ⟨b21, 0, none⟩) (cs := [(.int .i64 1), (.int .i64 (2 + i_ % 20)), (.int .i64 (2 + b_ % 60))]) (by kernel_rfl) (cells_sub (hs66.heapAt 3 rfl) rfl)) ?_
        refine ops_run 1 (by kernel_rfl) ?_
        obtain ⟨r68, h69, hm⟩ := bind_some hm
        replace h69 := some_inj h69
        refine ops_call (pre := []) hs66 (by kernel_rfl) (inodeat_spec (gw := 1) (gi := (2 + i_ % 20)) (gb := (2 + b_ % 60)) (n_ := r46) B _) ?_
        rintro _ _ w70 ⟨hv72, hH73⟩ hs71
        rw [h69] at hv72
        try rw [h69] at hH73
        subst hv72 hH73
        have hs74 : St B w [] w70 [kWr.row a59 c60 r49.2, viewA (ptr b34) r28 l64, kU64.row a26 c27 r28, blk b21 (.cells [(.int .i64 1), (.int .i64 (2 + i_ % 20)), (.int .i64 (2 + b_ % 60))].toArray 56 (0, 0)), blk b4 (.cells [(.int .u64 x_.k), (.int .u64 x_.l), (.int .u64 x_.o), (.int .u64 x_.s), (.int .u64 x_.a), (.int .u64 x_.b), (.int .u64 x_.c), (.int .u64 x_.d), (.int .u64 x_.e), (.int .u64 x_.m)].toArray 54 (0, 0))] := hs71
        refine ops_run 1 (by kernel_rfl) ?_
        refine ops_done (by kernel_rfl) ?_
        refine hK67 _ _ ?_
        clear hK67
        refine W.seq fun K75 hK75 => ?_
        refine W.region ?_
        refine ops_run 1 (by kernel_rfl) ?_
        refine ops_call (pre := []) hs74 (by kernel_rfl) (flat_spec (hv := (hs74.entAt 1 rfl viewA_at)) B _) ?_
        rintro _ _ w78 ⟨a76, c77, rfl, rfl⟩ hs79
        have hs80 : St B w [] w78 [kU64.row a76 c77 (vflat r28 l64), kWr.row a59 c60 r49.2, viewA (ptr b34) r28 l64, kU64.row a26 c27 r28, blk b21 (.cells [(.int .i64 1), (.int .i64 (2 + i_ % 20)), (.int .i64 (2 + b_ % 60))].toArray 56 (0, 0)), blk b4 (.cells [(.int .u64 x_.k), (.int .u64 x_.l), (.int .u64 x_.o), (.int .u64 x_.s), (.int .u64 x_.a), (.int .u64 x_.b), (.int .u64 x_.c), (.int .u64 x_.d), (.int .u64 x_.e), (.int .u64 x_.m)].toArray 54 (0, 0))] := hs79
        refine ops_run 1 (by kernel_rfl) ?_
        refine ops_done (by kernel_rfl) ?_
        refine hK75 _ _ ?_
        clear hK75
        refine W.seq fun K81 hK81 => ?_
        refine W.seq fun K82 hK82 => ?_
        refine W.region ?_
        refine ops_run 3 (by kernel_rfl) ?_
        rcases Bool.eq_false_or_eq_true (decide (r68 < 0)) with h83 | h83
        ·
          have h83p : r68 < 0 := of_decide_eq_true h83
          replace hm := ite_yes hm h83p
          refine ops_set 115 (v := .bool true) (eq_bool_of (by kernel_rfl) h83) ?_
          refine ops_set 114 (v := .bool true) (eq_bool_of (by kernel_rfl) h83) ?_
          refine ops_run 6 (by kernel_rfl) ?_
          refine ops_done (by kernel_rfl) ?_
          refine hK82 _ _ ?_
          clear hK82
          refine W.cond_true true (by kernel_rfl) rfl ?_
          refine W.seq fun K84 hK84 => ?_
          refine W.region ?_
          refine ops_run 1 (by kernel_rfl) ?_
          refine ops_done (by kernel_rfl) ?_
          refine hK84 _ _ ?_
          clear hK84
          refine W.ret (ret_seq ?_)
          have hs85 : St B w [] w78 [] := St.take (H := []) hs80
          refine ret_of (.bool false) (by kernel_rfl) ⟨_, ⟨congrArg Value.bool (some_inj hm), rfl⟩, hs85⟩
        ·
          have h83p : ¬ (r68 < 0) := of_decide_eq_false h83
          replace hm := ite_no hm h83p
          refine ops_set 115 (v := .bool false) (eq_bool_of (by kernel_rfl) h83) ?_
          refine ops_set 114 (v := .bool false) (eq_bool_of (by kernel_rfl) h83) ?_
          refine ops_run 6 (by kernel_rfl) ?_
          refine ops_done (by kernel_rfl) ?_
          refine hK82 _ _ ?_
          clear hK82
          refine W.cond (!decide ((((vflat r28 l64).length) : Int) = (r28.length : Int))) (by kernel_rfl) (fun h86 => ?_) (fun h86 => ?_)
          rotate_left
          ·
            have h86p : (((vflat r28 l64).length) : Int) = (r28.length : Int) := of_decide_eq_true (bnot_false h86)
            replace hm := ite_yes hm h86p
            refine W.skip ?_
            refine hK81 _ _ ?_
            clear hK81
            refine W.seq_join (fun s_ w_ => (∃ us, s_ = slots 171 [(11, (.pointer (some ⟨b21, 0, none⟩))), (13, (.pointer (some ⟨b34, 0, none⟩))), (14, (.int .i64 r46))] us) ∧ St B w [] w_ [kU64.row a76 c77 (vflat r28 l64), kWr.row a59 c60 r49.2, viewA (ptr b34) r28 l64, kU64.row a26 c27 r28, blk b21 (.cells [(.int .i64 1), (.int .i64 (2 + i_ % 20)), (.int .i64 (2 + b_ % 60))].toArray 56 (0, 0)), blk b4 (.cells [(.int .u64 x_.k), (.int .u64 x_.l), (.int .u64 x_.o), (.int .u64 x_.s), (.int .u64 x_.a), (.int .u64 x_.b), (.int .u64 x_.c), (.int .u64 x_.d), (.int .u64 x_.e), (.int .u64 x_.m)].toArray 54 (0, 0))] ∧ inodeback_J3 i_ b_ r28 r46 l64 = some true) ?_ ?_
            ·
              rintro _ w87 ⟨⟨us, rfl⟩, hs88, hm⟩
              unfold inodeback_J3 at hm
              refine W.seq fun K89 hK89 => ?_
              refine W.seq fun K90 hK90 => ?_
              refine W.region ?_
              refine ops_run 1 (by kernel_rfl) ?_
              refine ops_R (runs_loadAgg (ad := ⟨b21, 0, none⟩) (cs := [(.int .i64 1), (.int .i64 (2 + i_ % 20)), (.int .i64 (2 + b_ % 60))]) (by kernel_rfl) (cells_sub (hs88.heapAt 4 rfl) rfl)) ?_
              refine ops_run 1 (by kernel_rfl) ?_
              obtain ⟨r91, h92, hm⟩ := bind_some hm
              replace h92 := some_inj h92
              have hs95 : St B w [] w87 [viewA (ptr b34) r28 l64, kU64.row a76 c77 (vflat r28 l64), kWr.row a59 c60 r49.2, kU64.row a26 c27 r28, blk b21 (.cells [(.int .i64 1), (.int .i64 (2 + i_ % 20)), (.int .i64 (2 + b_ % 60))].toArray 56 (0, 0)), blk b4 (.cells [(.int .u64 x_.k), (.int .u64 x_.l), (.int .u64 x_.o), (.int .u64 x_.s), (.int .u64 x_.a), (.int .u64 x_.b), (.int .u64 x_.c), (.int .u64 x_.d), (.int .u64 x_.e), (.int .u64 x_.m)].toArray 54 (0, 0))] := hs88.front 2 (by simp)
              refine ops_call (pre := [viewA (ptr b34) r28 l64]) hs95 (by kernel_rfl) (iw_spec (b := b34) (img := r28) (l := l64) (gw := 1) (gi := (2 + i_ % 20)) (gb := (2 + b_ % 60)) (n_ := r46) B _) ?_
              rintro _ _ w96 ⟨hv93, hH94⟩ hs97
              rw [h92] at hv93
              try rw [h92] at hH94
              subst hv93 hH94
              have hs98 : St B w [] w96 [viewA (ptr b34) r28 r91.2, kU64.row a76 c77 (vflat r28 l64), kWr.row a59 c60 r49.2, kU64.row a26 c27 r28, blk b21 (.cells [(.int .i64 1), (.int .i64 (2 + i_ % 20)), (.int .i64 (2 + b_ % 60))].toArray 56 (0, 0)), blk b4 (.cells [(.int .u64 x_.k), (.int .u64 x_.l), (.int .u64 x_.o), (.int .u64 x_.s), (.int .u64 x_.a), (.int .u64 x_.b), (.int .u64 x_.c), (.int .u64 x_.d), (.int .u64 x_.e), (.int .u64 x_.m)].toArray 54 (0, 0))] := hs97
              refine ops_run 1 (by kernel_rfl) ?_
              refine ops_done (by kernel_rfl) ?_
              refine hK90 _ _ ?_
              clear hK90
              refine W.cond (!decide (r91.1 = 0)) (by kernel_rfl) (fun h99 => ?_) (fun h99 => ?_)
              rotate_left
              ·
                have h99p : r91.1 = 0 := of_decide_eq_true (bnot_false h99)
                replace hm := ite_yes hm h99p
                refine W.skip ?_
                refine hK89 _ _ ?_
                clear hK89
                refine W.seq fun K100 hK100 => ?_
                refine W.region ?_
                refine ops_run 1 (by kernel_rfl) ?_
                refine ops_R (runs_loadAgg (ad := ⟨b21, 0, none⟩) (cs := [(.int .i64 1), (.int .i64 (2 + i_ % 20)), (.int .i64 (2 + b_ % 60))]) (by kernel_rfl) (cells_sub (hs98.heapAt 4 rfl) rfl)) ?_
                refine ops_run 1 (by kernel_rfl) ?_
                obtain ⟨r101, h102, hm⟩ := bind_some hm
                replace h102 := some_inj h102
                refine ops_call (pre := []) hs98 (by kernel_rfl) (ig_spec (gw := 1) (gi := (2 + i_ % 20)) (gb := (2 + b_ % 60)) (n_ := r46) (hv := (hs98.entAt 0 rfl viewA_at)) B _) ?_
                rintro _ _ w103 ⟨hv105, hH106⟩ hs104
                rw [h102] at hv105
                try rw [h102] at hH106
                subst hv105 hH106
                have hs107 : St B w [] w103 [viewA (ptr b34) r28 r91.2, kU64.row a76 c77 (vflat r28 l64), kWr.row a59 c60 r49.2, kU64.row a26 c27 r28, blk b21 (.cells [(.int .i64 1), (.int .i64 (2 + i_ % 20)), (.int .i64 (2 + b_ % 60))].toArray 56 (0, 0)), blk b4 (.cells [(.int .u64 x_.k), (.int .u64 x_.l), (.int .u64 x_.o), (.int .u64 x_.s), (.int .u64 x_.a), (.int .u64 x_.b), (.int .u64 x_.c), (.int .u64 x_.d), (.int .u64 x_.e), (.int .u64 x_.m)].toArray 54 (0, 0))] := hs104
                refine ops_run 3 (by kernel_rfl) ?_
                refine ops_new (fun b => .pointer (some ⟨b, 0, none⟩)) (.cells [(.int .u64 0), (.int .u64 0), (.int .u64 0), (.int .u64 0), (.int .u64 0), (.int .u64 0), (.int .u64 0), (.int .u64 0), (.int .u64 0), (.int .u64 0)].toArray 54 (0, 0)) hs107 (by kernel_rfl) (fun b110 w108 hs109 => ?_)
                refine ops_store (off := 0) (cs := [(.int .u64 0), (.int .u64 0), (.int .u64 0), (.int .u64 0), (.int .u64 0), (.int .u64 0), (.int .u64 0), (.int .u64 0), (.int .u64 0), (.int .u64 0)]) (vs := [(.int .u64 r101.1.k), (.int .u64 r101.1.l), (.int .u64 r101.1.o), (.int .u64 r101.1.s), (.int .u64 r101.1.a), (.int .u64 r101.1.b), (.int .u64 r101.1.c), (.int .u64 r101.1.d), (.int .u64 r101.1.e), (.int .u64 r101.1.m)]) hs109 (by kernel_rfl) (by simp) rfl (fun w111 hs112 => ?_)
                have hs113 : St B w [] w111 [blk b110 (.cells [(.int .u64 r101.1.k), (.int .u64 r101.1.l), (.int .u64 r101.1.o), (.int .u64 r101.1.s), (.int .u64 r101.1.a), (.int .u64 r101.1.b), (.int .u64 r101.1.c), (.int .u64 r101.1.d), (.int .u64 r101.1.e), (.int .u64 r101.1.m)].toArray 54 (0, 0)), viewA (ptr b34) r28 r91.2, kU64.row a76 c77 (vflat r28 l64), kWr.row a59 c60 r49.2, kU64.row a26 c27 r28, blk b21 (.cells [(.int .i64 1), (.int .i64 (2 + i_ % 20)), (.int .i64 (2 + b_ % 60))].toArray 56 (0, 0)), blk b4 (.cells [(.int .u64 x_.k), (.int .u64 x_.l), (.int .u64 x_.o), (.int .u64 x_.s), (.int .u64 x_.a), (.int .u64 x_.b), (.int .u64 x_.c), (.int .u64 x_.d), (.int .u64 x_.e), (.int .u64 x_.m)].toArray 54 (0, 0))] := hs112
                refine ops_run 1 (by kernel_rfl) ?_
                refine ops_done (by kernel_rfl) ?_
                refine hK100 _ _ ?_
                clear hK100
                refine W.seq fun K114 hK114 => ?_
                refine W.region ?_
                refine ops_run 3 (by kernel_rfl) ?_
                rcases Bool.eq_false_or_eq_true (decide (r101.2 = 4)) with h115 | h115
                ·
                  have h115p : r101.2 = 4 := of_decide_eq_true h115
                  replace hm := ite_yes hm h115p
                  refine ops_set 162 (v := .bool true) (eq_bool_of (by kernel_rfl) h115) ?_
                  refine ops_set 161 (v := .bool true) (eq_bool_of (by kernel_rfl) h115) ?_
                  refine ops_R (runs_loadAgg (ad := ⟨b21, 0, none⟩) (cs := [(.int .i64 1), (.int .i64 (2 + i_ % 20)), (.int .i64 (2 + b_ % 60))]) (by kernel_rfl) (cells_sub (hs113.heapAt 5 rfl) rfl)) ?_
                  refine ops_run 1 (by kernel_rfl) ?_
                  refine ops_call (pre := []) hs113 (by kernel_rfl) (right_spec (gw := 1) (gi := (2 + i_ % 20)) (gb := (2 + b_ % 60)) (x_ := ⟨0, 0, 0, 0, 0, 0, 0, 0, 0, 0⟩) B _) ?_
                  rintro _ _ w116 ⟨rfl, rfl⟩ hs117
                  have hs118 : St B w [] w116 [blk b110 (.cells [(.int .u64 r101.1.k), (.int .u64 r101.1.l), (.int .u64 r101.1.o), (.int .u64 r101.1.s), (.int .u64 r101.1.a), (.int .u64 r101.1.b), (.int .u64 r101.1.c), (.int .u64 r101.1.d), (.int .u64 r101.1.e), (.int .u64 r101.1.m)].toArray 54 (0, 0)), viewA (ptr b34) r28 r91.2, kU64.row a76 c77 (vflat r28 l64), kWr.row a59 c60 r49.2, kU64.row a26 c27 r28, blk b21 (.cells [(.int .i64 1), (.int .i64 (2 + i_ % 20)), (.int .i64 (2 + b_ % 60))].toArray 56 (0, 0)), blk b4 (.cells [(.int .u64 x_.k), (.int .u64 x_.l), (.int .u64 x_.o), (.int .u64 x_.s), (.int .u64 x_.a), (.int .u64 x_.b), (.int .u64 x_.c), (.int .u64 x_.d), (.int .u64 x_.e), (.int .u64 x_.m)].toArray 54 (0, 0))] := hs117
                  refine ops_run 3 (by kernel_rfl) ?_
                  rcases Bool.eq_false_or_eq_true (!(decide (RightP 1 (2 + i_ % 20) (2 + b_ % 60) ⟨0, 0, 0, 0, 0, 0, 0, 0, 0, 0⟩))) with h119 | h119
                  rotate_left
                  ·
                    have h119p : RightP 1 (2 + i_ % 20) (2 + b_ % 60) ⟨0, 0, 0, 0, 0, 0, 0, 0, 0, 0⟩ := of_decide_eq_true (bnot_false h119)
                    replace hm := ite_yes hm h119p
                    refine ops_set 168 (v := .bool false) (eq_bool_of (by kernel_rfl) h119) ?_
                    refine ops_set 166 (v := .bool false) (eq_bool_of (by kernel_rfl) h119) ?_
                    refine ops_set 167 (v := .bool false) (eq_bool_of (by kernel_rfl) h119) ?_
                    refine ops_run 3 (by kernel_rfl) ?_
                    refine ops_done (by kernel_rfl) ?_
                    refine hK114 _ _ ?_
                    clear hK114
                    refine W.ret ?_
                    have hs120 : St B w [] w116 [] := St.take (H := []) hs118
                    refine ret_of (.bool false) (by kernel_rfl) ⟨_, ⟨congrArg Value.bool (some_inj hm), rfl⟩, hs120⟩
                  ·
                    have h119p : ¬ (RightP 1 (2 + i_ % 20) (2 + b_ % 60) ⟨0, 0, 0, 0, 0, 0, 0, 0, 0, 0⟩) := of_decide_eq_false (bnot_true h119)
                    replace hm := ite_no hm h119p
                    refine ops_set 168 (v := .bool true) (eq_bool_of (by kernel_rfl) h119) ?_
                    refine ops_set 166 (v := .bool true) (eq_bool_of (by kernel_rfl) h119) ?_
                    refine ops_set 167 (v := .bool true) (eq_bool_of (by kernel_rfl) h119) ?_
                    refine ops_call (pre := []) hs118 (by kernel_rfl) (works12_spec B _) ?_
                    rintro _ _ w121 ⟨rfl, rfl⟩ hs122
                    have hs123 : St B w [] w121 [blk b110 (.cells [(.int .u64 r101.1.k), (.int .u64 r101.1.l), (.int .u64 r101.1.o), (.int .u64 r101.1.s), (.int .u64 r101.1.a), (.int .u64 r101.1.b), (.int .u64 r101.1.c), (.int .u64 r101.1.d), (.int .u64 r101.1.e), (.int .u64 r101.1.m)].toArray 54 (0, 0)), viewA (ptr b34) r28 r91.2, kU64.row a76 c77 (vflat r28 l64), kWr.row a59 c60 r49.2, kU64.row a26 c27 r28, blk b21 (.cells [(.int .i64 1), (.int .i64 (2 + i_ % 20)), (.int .i64 (2 + b_ % 60))].toArray 56 (0, 0)), blk b4 (.cells [(.int .u64 x_.k), (.int .u64 x_.l), (.int .u64 x_.o), (.int .u64 x_.s), (.int .u64 x_.a), (.int .u64 x_.b), (.int .u64 x_.c), (.int .u64 x_.d), (.int .u64 x_.e), (.int .u64 x_.m)].toArray 54 (0, 0))] := hs122
                    refine ops_run 2 (by kernel_rfl) ?_
                    refine ops_done (by kernel_rfl) ?_
                    refine hK114 _ _ ?_
                    clear hK114
                    refine W.ret ?_
                    have hs124 : St B w [] w121 [] := St.take (H := []) hs123
                    refine ret_of (.bool true) (by kernel_rfl) ⟨_, ⟨congrArg Value.bool (some_inj hm), rfl⟩, hs124⟩
                ·
                  have h115p : ¬ (r101.2 = 4) := of_decide_eq_false h115
                  replace hm := ite_no hm h115p
                  refine ops_set 162 (v := .bool false) (eq_bool_of (by kernel_rfl) h115) ?_
                  refine ops_set 161 (v := .bool false) (eq_bool_of (by kernel_rfl) h115) ?_
                  refine ops_run 9 (by kernel_rfl) ?_
                  refine ops_done (by kernel_rfl) ?_
                  refine hK114 _ _ ?_
                  clear hK114
                  refine W.ret ?_
                  have hs125 : St B w [] w111 [] := St.take (H := []) hs113
                  refine ret_of (.bool false) (by kernel_rfl) ⟨_, ⟨congrArg Value.bool (some_inj hm), rfl⟩, hs125⟩
              ·
                have h99p : ¬ (r91.1 = 0) := of_decide_eq_false (bnot_true h99)
                replace hm := ite_no hm h99p
                refine W.seq fun K126 hK126 => ?_
                refine W.region ?_
                refine ops_run 1 (by kernel_rfl) ?_
                refine ops_done (by kernel_rfl) ?_
                refine hK126 _ _ ?_
                clear hK126
                refine W.ret (ret_seq ?_)
                have hs127 : St B w [] w96 [] := St.take (H := []) hs98
                refine ret_of (.bool false) (by kernel_rfl) ⟨_, ⟨congrArg Value.bool (some_inj hm), rfl⟩, hs127⟩
            ·
              refine W.seq fun K128 hK128 => ?_
              refine W.region ?_
              refine ops_run 1 (by kernel_rfl) ?_
              refine ops_done (by kernel_rfl) ?_
              refine hK128 _ _ ?_
              clear hK128
              refine W.block ?_
              refine W.loop_iter (G := Int) (σ := Int) (fun | p129 => p129) (fun | p129, s_, w_ => (∃ us, s_ = slots 171 [(11, (.pointer (some ⟨b21, 0, none⟩))), (12, (.slice a26 r28.length c27)), (13, (.pointer (some ⟨b34, 0, none⟩))), (14, (.int .i64 r46)), (19, (.int .i64 r68)), (20, (.slice a76 ((vflat r28 l64).length) c77)), (21, (.int .i64 p129))] us) ∧ St B w [] w_ [kU64.row a76 c77 (vflat r28 l64), kWr.row a59 c60 r49.2, viewA (ptr b34) r28 l64, kU64.row a26 c27 r28, blk b21 (.cells [(.int .i64 1), (.int .i64 (2 + i_ % 20)), (.int .i64 (2 + b_ % 60))].toArray 56 (0, 0)), blk b4 (.cells [(.int .u64 x_.k), (.int .u64 x_.l), (.int .u64 x_.o), (.int .u64 x_.s), (.int .u64 x_.a), (.int .u64 x_.b), (.int .u64 x_.c), (.int .u64 x_.d), (.int .u64 x_.e), (.int .u64 x_.m)].toArray 54 (0, 0))]) 0 ⟨slots_intro _ (by kernel_rfl), hs80⟩ hm ?_
              rintro k130 ih131 p129 _ w132 ⟨⟨us, rfl⟩, hs133⟩ hm
              replace hm : inodeback_B0 i_ b_ r28 r46 l64 r68 k130 p129 = some true := hm
              unfold inodeback_B0 at hm
              refine W.seq fun K134 hK134 => ?_
              refine W.seq fun K135 hK135 => ?_
              refine W.region ?_
              refine ops_run 4 (by kernel_rfl) ?_
              refine ops_done (by kernel_rfl) ?_
              refine hK135 _ _ ?_
              clear hK135
              refine W.cond (decide (p129 < (r28.length : Int))) (by kernel_rfl) (fun h136 => ?_) (fun h136 => ?_)
              ·
                have h136p : p129 < (r28.length : Int) := of_decide_eq_true h136
                replace hm := ite_yes hm h136p
                refine W.skip ?_
                refine hK134 _ _ ?_
                clear hK134
                refine W.seq fun K137 hK137 => ?_
                refine W.block ?_
                refine W.seq fun K138 hK138 => ?_
                have hs139 := hs133.drew
                refine W.regionD [(0, 0), (0, 0), (3, 3), (4, 4), (8, 8), (8, 8), (40, 40), (88, 88), (136, 136), (264, 256), (512, 512), (512, 512), (3584, 3584), (4608, 4608), (512, 512), (512, 512), (49664, 49664), (66048, 66048), (139776, 139776), (262656, 262656)] (fun w_ => St B w [] w_ [kU64.row a76 c77 (vflat r28 l64), kWr.row a59 c60 r49.2, viewA (ptr b34) r28 l64, kU64.row a26 c27 r28, blk b21 (.cells [(.int .i64 1), (.int .i64 (2 + i_ % 20)), (.int .i64 (2 + b_ % 60))].toArray 56 (0, 0)), blk b4 (.cells [(.int .u64 x_.k), (.int .u64 x_.l), (.int .u64 x_.o), (.int .u64 x_.s), (.int .u64 x_.a), (.int .u64 x_.b), (.int .u64 x_.c), (.int .u64 x_.d), (.int .u64 x_.e), (.int .u64 x_.m)].toArray 54 (0, 0))]) (by kernel_rfl) hs139 ?_
                refine any_val (v := (.int .i64 p129)) (v' := (.int .i64 p129)) 0 (by kernel_rfl) (fun _ => by kernel_rfl) rfl hs139 ?_
                refine any_val (v := (.int .i64 r68)) (v' := (.int .i64 r68)) 1 (by kernel_rfl) (fun _ => by kernel_rfl) rfl hs139 ?_
                refine any_val (v := (.bool (decide (p129 < r68)))) (v' := (.bool (decide (p129 < r68)))) 2 (by kernel_rfl) (fun _ => by kernel_rfl) rfl hs139 ?_
                refine any_val (v := (.bool (decide (p129 < r68)))) (v' := (.bool (decide (p129 < r68)))) 3 (by kernel_rfl) (fun _ => by kernel_rfl) rfl hs139 ?_
                rcases Bool.eq_false_or_eq_true (decide (p129 < r68)) with h140 | h140
                ·
                  have h140p : p129 < r68 := of_decide_eq_true h140
                  replace hm := ite_yes hm h140p
                  refine any_set 130 (v := .bool true) (eq_bool_of (by kernel_rfl) h140) ?_
                  refine any_set 131 (v := .bool true) (eq_bool_of (by kernel_rfl) h140) ?_
                  refine any_skip 4 (by kernel_rfl) (by kernel_rfl) hs139 ?_
                  refine any_skip 5 (by kernel_rfl) (by kernel_rfl) hs139 ?_
                  refine any_skip 6 (by kernel_rfl) (by kernel_rfl) hs139 ?_
                  refine any_skip 7 (by kernel_rfl) (by kernel_rfl) hs139 ?_
                  refine any_val (v := (.bool true)) (v' := (.bool true)) 8 (by kernel_rfl) (fun _ => by kernel_rfl) rfl hs139 ?_
                  refine any_val (v := (.bool true)) (v' := (.bool true)) 9 (by kernel_rfl) (fun _ => by kernel_rfl) rfl hs139 ?_
                  refine any_val (v := (.slice a76 ((vflat r28 l64).length) c77)) (v' := (.slice a76 ((vflat r28 l64).length) c77)) 10 (by kernel_rfl) (fun _ => by kernel_rfl) rfl hs139 ?_
                  refine any_val (v := (.int .i64 p129)) (v' := (.int .i64 p129)) 11 (by kernel_rfl) (fun _ => by kernel_rfl) rfl hs139 ?_
                  obtain ⟨h142, hm⟩ := need_some hm
                  have hk141 := lt_toNat h142
                  refine any_R 12 (by kernel_rfl) (fun _ hS_ => runs_index (a := a76) (n := (vflat r28 l64).length) (z := p129) (size := 1) p129.toNat (nat_of h142.1) hk141 (kU64.addr (St.kcells kU64 hs139 0 rfl) hk141) (by kernel_rfl)) hs139 ?_
                  refine any_R 13 (by kernel_rfl) (fun _ hS_ => runs_load (ad := ((adr a76 (p129.toNat * 1)).add 0)) (v := (.int .u64 ((vflat r28 l64).getD p129.toNat 0))) (by kernel_rfl) (kU64.at (St.kcells kU64 hS_ 0 rfl) hk141 0 0 rfl)) hs139 ?_
                  refine any_val (v := (.slice a26 r28.length c27)) (v' := (.slice a26 r28.length c27)) 14 (by kernel_rfl) (fun _ => by kernel_rfl) rfl hs139 ?_
                  refine any_val (v := (.int .i64 p129)) (v' := (.int .i64 p129)) 15 (by kernel_rfl) (fun _ => by kernel_rfl) rfl hs139 ?_
                  obtain ⟨h144, hm⟩ := need_some hm
                  have hk143 := lt_toNat h144
                  refine any_R 16 (by kernel_rfl) (fun _ hS_ => runs_index (a := a26) (n := r28.length) (z := p129) (size := 1) p129.toNat (nat_of h144.1) hk143 (kU64.addr (St.kcells kU64 hs139 3 rfl) hk143) (by kernel_rfl)) hs139 ?_
                  refine any_R 17 (by kernel_rfl) (fun _ hS_ => runs_load (ad := ((adr a26 (p129.toNat * 1)).add 0)) (v := (.int .u64 (r28.getD p129.toNat 0))) (by kernel_rfl) (kU64.at (St.kcells kU64 hS_ 3 rfl) hk143 0 0 rfl)) hs139 ?_
                  refine any_val (v := (.bool (!decide (((vflat r28 l64).getD p129.toNat 0) = (r28.getD p129.toNat 0))))) (v' := (.bool (!decide (((vflat r28 l64).getD p129.toNat 0) = (r28.getD p129.toNat 0))))) 18 (by kernel_rfl) (fun _ => by kernel_rfl) rfl hs139 ?_
                  refine any_val (v := (.bool (!decide (((vflat r28 l64).getD p129.toNat 0) = (r28.getD p129.toNat 0))))) (v' := (.bool (!decide (((vflat r28 l64).getD p129.toNat 0) = (r28.getD p129.toNat 0))))) 19 (by kernel_rfl) (fun _ => by kernel_rfl) rfl hs139 ?_
                  refine any_done (by kernel_rfl) ?_
                  refine hK138 _ _ ?_
                  clear hK138
                  refine W.cond (!decide (((vflat r28 l64).getD p129.toNat 0) = (r28.getD p129.toNat 0))) (by kernel_rfl) (fun h145 => ?_) (fun h145 => ?_)
                  rotate_left
                  ·
                    have h145p : ((vflat r28 l64).getD p129.toNat 0) = (r28.getD p129.toNat 0) := of_decide_eq_true (bnot_false h145)
                    replace hm := ite_yes hm h145p
                    refine W.skip ?_
                    refine normal_block ?_
                    refine hK137 _ _ ?_
                    clear hK137
                    refine W.region ?_
                    refine ops_run 1 (by kernel_rfl) ?_
                    obtain ⟨h146, hm⟩ := need_some hm
                    refine ops_val (v := .int .i64 (IntKind.i64.wrap (p129 + 1))) (v' := .int .i64 (p129 + 1)) (by kernel_rfl) (congrArg (Value.int .i64) (wrap_i64 h146.1 h146.2)) ?_
                    refine ops_run 1 (by kernel_rfl) ?_
                    refine ops_done (by kernel_rfl) ?_
                    refine loopAt_next ?_
                    exact ih131 (p129 + 1) _ _ ⟨slots_intro _ (by kernel_rfl), hs139⟩ hm
                  ·
                    have h145p : ¬ (((vflat r28 l64).getD p129.toNat 0) = (r28.getD p129.toNat 0)) := of_decide_eq_false (bnot_true h145)
                    replace hm := ite_no hm h145p
                    refine W.seq fun K147 hK147 => ?_
                    refine W.region ?_
                    refine ops_run 1 (by kernel_rfl) ?_
                    refine ops_done (by kernel_rfl) ?_
                    refine hK147 _ _ ?_
                    clear hK147
                    refine W.ret (ret_block (ret_seq (ret_seq (ret_block (ret_seq ?_)))))
                    have hs148 : St B w [] w132.drew [] := St.take (H := []) hs139
                    refine ret_of (.bool false) (by kernel_rfl) ⟨_, ⟨congrArg Value.bool (some_inj hm), rfl⟩, hs148⟩
                ·
                  have h140p : ¬ (p129 < r68) := of_decide_eq_false h140
                  replace hm := ite_no hm h140p
                  refine any_set 130 (v := .bool false) (eq_bool_of (by kernel_rfl) h140) ?_
                  refine any_set 131 (v := .bool false) (eq_bool_of (by kernel_rfl) h140) ?_
                  refine any_val (v := (.int .i64 p129)) (v' := (.int .i64 p129)) 4 (by kernel_rfl) (fun _ => by kernel_rfl) rfl hs139 ?_
                  refine any_val (v := (.int .i64 r68)) (v' := (.int .i64 r68)) 5 (by kernel_rfl) (fun _ => by kernel_rfl) rfl hs139 ?_
                  obtain ⟨h149, hm⟩ := need_some hm
                  refine any_val (v := .int .i64 (IntKind.i64.wrap (r68 + 10))) (v' := .int .i64 (r68 + 10)) 6 (by kernel_rfl) (fun _ => by kernel_rfl) (congrArg (Value.int .i64) (wrap_i64 h149.1 h149.2)) hs139 ?_
                  refine any_val (v := (.bool (decide (p129 ≥ (r68 + 10))))) (v' := (.bool (decide (p129 ≥ (r68 + 10))))) 7 (by kernel_rfl) (fun _ => by kernel_rfl) rfl hs139 ?_
                  refine any_val (v := (.bool (decide (p129 ≥ (r68 + 10))))) (v' := (.bool (decide (p129 ≥ (r68 + 10))))) 8 (by kernel_rfl) (fun _ => by kernel_rfl) rfl hs139 ?_
                  refine any_val (v := (.bool (decide (p129 ≥ (r68 + 10))))) (v' := (.bool (decide (p129 ≥ (r68 + 10))))) 9 (by kernel_rfl) (fun _ => by kernel_rfl) rfl hs139 ?_
                  rcases Bool.eq_false_or_eq_true (decide (p129 ≥ (r68 + 10))) with h150 | h150
                  ·
                    have h150p : p129 ≥ (r68 + 10) := of_decide_eq_true h150
                    replace hm := ite_yes hm h150p
                    refine any_set 135 (v := .bool true) (eq_bool_of (by kernel_rfl) h150) ?_
                    refine any_set 136 (v := .bool true) (eq_bool_of (by kernel_rfl) h150) ?_
                    refine any_set 137 (v := .bool true) (eq_bool_of (by kernel_rfl) h150) ?_
                    refine any_val (v := (.slice a76 ((vflat r28 l64).length) c77)) (v' := (.slice a76 ((vflat r28 l64).length) c77)) 10 (by kernel_rfl) (fun _ => by kernel_rfl) rfl hs139 ?_
                    refine any_val (v := (.int .i64 p129)) (v' := (.int .i64 p129)) 11 (by kernel_rfl) (fun _ => by kernel_rfl) rfl hs139 ?_
                    obtain ⟨h152, hm⟩ := need_some hm
                    have hk151 := lt_toNat h152
                    refine any_R 12 (by kernel_rfl) (fun _ hS_ => runs_index (a := a76) (n := (vflat r28 l64).length) (z := p129) (size := 1) p129.toNat (nat_of h152.1) hk151 (kU64.addr (St.kcells kU64 hs139 0 rfl) hk151) (by kernel_rfl)) hs139 ?_
                    refine any_R 13 (by kernel_rfl) (fun _ hS_ => runs_load (ad := ((adr a76 (p129.toNat * 1)).add 0)) (v := (.int .u64 ((vflat r28 l64).getD p129.toNat 0))) (by kernel_rfl) (kU64.at (St.kcells kU64 hS_ 0 rfl) hk151 0 0 rfl)) hs139 ?_
                    refine any_val (v := (.slice a26 r28.length c27)) (v' := (.slice a26 r28.length c27)) 14 (by kernel_rfl) (fun _ => by kernel_rfl) rfl hs139 ?_
                    refine any_val (v := (.int .i64 p129)) (v' := (.int .i64 p129)) 15 (by kernel_rfl) (fun _ => by kernel_rfl) rfl hs139 ?_
                    obtain ⟨h154, hm⟩ := need_some hm
                    have hk153 := lt_toNat h154
                    refine any_R 16 (by kernel_rfl) (fun _ hS_ => runs_index (a := a26) (n := r28.length) (z := p129) (size := 1) p129.toNat (nat_of h154.1) hk153 (kU64.addr (St.kcells kU64 hs139 3 rfl) hk153) (by kernel_rfl)) hs139 ?_
                    refine any_R 17 (by kernel_rfl) (fun _ hS_ => runs_load (ad := ((adr a26 (p129.toNat * 1)).add 0)) (v := (.int .u64 (r28.getD p129.toNat 0))) (by kernel_rfl) (kU64.at (St.kcells kU64 hS_ 3 rfl) hk153 0 0 rfl)) hs139 ?_
                    refine any_val (v := (.bool (!decide (((vflat r28 l64).getD p129.toNat 0) = (r28.getD p129.toNat 0))))) (v' := (.bool (!decide (((vflat r28 l64).getD p129.toNat 0) = (r28.getD p129.toNat 0))))) 18 (by kernel_rfl) (fun _ => by kernel_rfl) rfl hs139 ?_
                    refine any_val (v := (.bool (!decide (((vflat r28 l64).getD p129.toNat 0) = (r28.getD p129.toNat 0))))) (v' := (.bool (!decide (((vflat r28 l64).getD p129.toNat 0) = (r28.getD p129.toNat 0))))) 19 (by kernel_rfl) (fun _ => by kernel_rfl) rfl hs139 ?_
                    refine any_done (by kernel_rfl) ?_
                    refine hK138 _ _ ?_
                    clear hK138
                    refine W.cond (!decide (((vflat r28 l64).getD p129.toNat 0) = (r28.getD p129.toNat 0))) (by kernel_rfl) (fun h155 => ?_) (fun h155 => ?_)
                    rotate_left
                    ·
                      have h155p : ((vflat r28 l64).getD p129.toNat 0) = (r28.getD p129.toNat 0) := of_decide_eq_true (bnot_false h155)
                      replace hm := ite_yes hm h155p
                      refine W.skip ?_
                      refine normal_block ?_
                      refine hK137 _ _ ?_
                      clear hK137
                      refine W.region ?_
                      refine ops_run 1 (by kernel_rfl) ?_
                      obtain ⟨h156, hm⟩ := need_some hm
                      refine ops_val (v := .int .i64 (IntKind.i64.wrap (p129 + 1))) (v' := .int .i64 (p129 + 1)) (by kernel_rfl) (congrArg (Value.int .i64) (wrap_i64 h156.1 h156.2)) ?_
                      refine ops_run 1 (by kernel_rfl) ?_
                      refine ops_done (by kernel_rfl) ?_
                      refine loopAt_next ?_
                      exact ih131 (p129 + 1) _ _ ⟨slots_intro _ (by kernel_rfl), hs139⟩ hm
                    ·
                      have h155p : ¬ (((vflat r28 l64).getD p129.toNat 0) = (r28.getD p129.toNat 0)) := of_decide_eq_false (bnot_true h155)
                      replace hm := ite_no hm h155p
                      refine W.seq fun K157 hK157 => ?_
                      refine W.region ?_
                      refine ops_run 1 (by kernel_rfl) ?_
                      refine ops_done (by kernel_rfl) ?_
                      refine hK157 _ _ ?_
                      clear hK157
                      refine W.ret (ret_block (ret_seq (ret_seq (ret_block (ret_seq ?_)))))
                      have hs158 : St B w [] w132.drew [] := St.take (H := []) hs139
                      refine ret_of (.bool false) (by kernel_rfl) ⟨_, ⟨congrArg Value.bool (some_inj hm), rfl⟩, hs158⟩
                  ·
                    have h150p : ¬ (p129 ≥ (r68 + 10)) := of_decide_eq_false h150
                    replace hm := ite_no hm h150p
                    refine any_set 135 (v := .bool false) (eq_bool_of (by kernel_rfl) h150) ?_
                    refine any_set 136 (v := .bool false) (eq_bool_of (by kernel_rfl) h150) ?_
                    refine any_set 137 (v := .bool false) (eq_bool_of (by kernel_rfl) h150) ?_
                    refine any_skip 10 (by kernel_rfl) (by kernel_rfl) hs139 ?_
                    refine any_skip 11 (by kernel_rfl) (by kernel_rfl) hs139 ?_
                    refine any_skip 12 (by kernel_rfl) (by kernel_rfl) hs139 ?_
                    refine any_skip 13 (by kernel_rfl) (by kernel_rfl) hs139 ?_
                    refine any_skip 14 (by kernel_rfl) (by kernel_rfl) hs139 ?_
                    refine any_skip 15 (by kernel_rfl) (by kernel_rfl) hs139 ?_
                    refine any_skip 16 (by kernel_rfl) (by kernel_rfl) hs139 ?_
                    refine any_skip 17 (by kernel_rfl) (by kernel_rfl) hs139 ?_
                    refine any_skip 18 (by kernel_rfl) (by kernel_rfl) hs139 ?_
                    refine any_val (v := (.bool false)) (v' := (.bool false)) 19 (by kernel_rfl) (fun _ => by kernel_rfl) rfl hs139 ?_
                    refine any_done (by kernel_rfl) ?_
                    refine hK138 _ _ ?_
                    clear hK138
                    refine W.cond_false false (by kernel_rfl) rfl ?_
                    refine W.skip ?_
                    refine normal_block ?_
                    refine hK137 _ _ ?_
                    clear hK137
                    refine W.region ?_
                    refine ops_run 1 (by kernel_rfl) ?_
                    obtain ⟨h159, hm⟩ := need_some hm
                    refine ops_val (v := .int .i64 (IntKind.i64.wrap (p129 + 1))) (v' := .int .i64 (p129 + 1)) (by kernel_rfl) (congrArg (Value.int .i64) (wrap_i64 h159.1 h159.2)) ?_
                    refine ops_run 1 (by kernel_rfl) ?_
                    refine ops_done (by kernel_rfl) ?_
                    refine loopAt_next ?_
                    exact ih131 (p129 + 1) _ _ ⟨slots_intro _ (by kernel_rfl), hs139⟩ hm
              ·
                have h136p : ¬ (p129 < (r28.length : Int)) := of_decide_eq_false h136
                replace hm := ite_no hm h136p
                refine W.exit (exit_seq (exit_seq (exit_here ?_)))
                exact ⟨slots_intro _ (by kernel_rfl), hs133, hm⟩
          ·
            have h86p : ¬ ((((vflat r28 l64).length) : Int) = (r28.length : Int)) := of_decide_eq_false (bnot_true h86)
            replace hm := ite_no hm h86p
            refine W.seq fun K160 hK160 => ?_
            refine W.region ?_
            refine ops_run 1 (by kernel_rfl) ?_
            refine ops_done (by kernel_rfl) ?_
            refine hK160 _ _ ?_
            clear hK160
            refine W.ret (ret_seq ?_)
            have hs161 : St B w [] w78 [] := St.take (H := []) hs80
            refine ret_of (.bool false) (by kernel_rfl) ⟨_, ⟨congrArg Value.bool (some_inj hm), rfl⟩, hs161⟩
      ·
        refine W.seq fun K162 hK162 => ?_
        refine W.region ?_
        refine ops_run 2 (by kernel_rfl) ?_
        refine ops_done (by kernel_rfl) ?_
        refine hK162 _ _ ?_
        clear hK162
        refine W.cond (decide (r49.1 = 0)) (by kernel_rfl) (fun h163 => ?_) (fun h163 => ?_)
        ·
          have h163p : r49.1 = 0 := of_decide_eq_true h163
          replace hm := ite_yes hm h163p
          refine W.seq fun K164 hK164 => ?_
          refine W.region ?_
          refine ops_run 1 (by kernel_rfl) ?_
          refine ops_R (runs_loadAgg (ad := ⟨b21, 0, none⟩) (cs := [(.int .i64 1), (.int .i64 (2 + i_ % 20)), (.int .i64 (2 + b_ % 60))]) (by kernel_rfl) (cells_sub (hs63.heapAt 3 rfl) rfl)) ?_
          refine ops_run 1 (by kernel_rfl) ?_
          obtain ⟨r165, h166, hm⟩ := bind_some hm
          replace h166 := some_inj h166
          refine ops_call (pre := []) hs63 (by kernel_rfl) (ig_spec (gw := 1) (gi := (2 + i_ % 20)) (gb := (2 + b_ % 60)) (n_ := r46) (hv := (hs63.entAt 1 rfl viewA_at)) B _) ?_
          rintro _ _ w167 ⟨hv169, hH170⟩ hs168
          rw [h166] at hv169
          try rw [h166] at hH170
          subst hv169 hH170
          have hs171 : St B w [] w167 [kWr.row a59 c60 r49.2, viewA (ptr b34) r28 r49.2, kU64.row a26 c27 r28, blk b21 (.cells [(.int .i64 1), (.int .i64 (2 + i_ % 20)), (.int .i64 (2 + b_ % 60))].toArray 56 (0, 0)), blk b4 (.cells [(.int .u64 x_.k), (.int .u64 x_.l), (.int .u64 x_.o), (.int .u64 x_.s), (.int .u64 x_.a), (.int .u64 x_.b), (.int .u64 x_.c), (.int .u64 x_.d), (.int .u64 x_.e), (.int .u64 x_.m)].toArray 54 (0, 0))] := hs168
          refine ops_run 3 (by kernel_rfl) ?_
          refine ops_new (fun b => .pointer (some ⟨b, 0, none⟩)) (.cells [(.int .u64 0), (.int .u64 0), (.int .u64 0), (.int .u64 0), (.int .u64 0), (.int .u64 0), (.int .u64 0), (.int .u64 0), (.int .u64 0), (.int .u64 0)].toArray 54 (0, 0)) hs171 (by kernel_rfl) (fun b174 w172 hs173 => ?_)
          refine ops_store (off := 0) (cs := [(.int .u64 0), (.int .u64 0), (.int .u64 0), (.int .u64 0), (.int .u64 0), (.int .u64 0), (.int .u64 0), (.int .u64 0), (.int .u64 0), (.int .u64 0)]) (vs := [(.int .u64 r165.1.k), (.int .u64 r165.1.l), (.int .u64 r165.1.o), (.int .u64 r165.1.s), (.int .u64 r165.1.a), (.int .u64 r165.1.b), (.int .u64 r165.1.c), (.int .u64 r165.1.d), (.int .u64 r165.1.e), (.int .u64 r165.1.m)]) hs173 (by kernel_rfl) (by simp) rfl (fun w175 hs176 => ?_)
          have hs177 : St B w [] w175 [blk b174 (.cells [(.int .u64 r165.1.k), (.int .u64 r165.1.l), (.int .u64 r165.1.o), (.int .u64 r165.1.s), (.int .u64 r165.1.a), (.int .u64 r165.1.b), (.int .u64 r165.1.c), (.int .u64 r165.1.d), (.int .u64 r165.1.e), (.int .u64 r165.1.m)].toArray 54 (0, 0)), kWr.row a59 c60 r49.2, viewA (ptr b34) r28 r49.2, kU64.row a26 c27 r28, blk b21 (.cells [(.int .i64 1), (.int .i64 (2 + i_ % 20)), (.int .i64 (2 + b_ % 60))].toArray 56 (0, 0)), blk b4 (.cells [(.int .u64 x_.k), (.int .u64 x_.l), (.int .u64 x_.o), (.int .u64 x_.s), (.int .u64 x_.a), (.int .u64 x_.b), (.int .u64 x_.c), (.int .u64 x_.d), (.int .u64 x_.e), (.int .u64 x_.m)].toArray 54 (0, 0))] := hs176
          refine ops_run 1 (by kernel_rfl) ?_
          refine ops_done (by kernel_rfl) ?_
          refine hK164 _ _ ?_
          clear hK164
          refine W.seq fun K178 hK178 => ?_
          refine W.region ?_
          refine ops_run 3 (by kernel_rfl) ?_
          rcases Bool.eq_false_or_eq_true (!decide (r165.2 = 0)) with h179 | h179
          rotate_left
          ·
            have h179p : r165.2 = 0 := of_decide_eq_true (bnot_false h179)
            replace hm := ite_yes hm h179p
            refine ops_set 84 (v := .bool false) (eq_bool_of (by kernel_rfl) h179) ?_
            refine ops_set 83 (v := .bool false) (eq_bool_of (by kernel_rfl) h179) ?_
            refine ops_R (runs_loadAgg (ad := ⟨b174, 0, none⟩) (cs := [(.int .u64 r165.1.k), (.int .u64 r165.1.l), (.int .u64 r165.1.o), (.int .u64 r165.1.s), (.int .u64 r165.1.a), (.int .u64 r165.1.b), (.int .u64 r165.1.c), (.int .u64 r165.1.d), (.int .u64 r165.1.e), (.int .u64 r165.1.m)]) (by kernel_rfl) (cells_sub (hs177.heapAt 0 rfl) rfl)) ?_
            refine ops_R (runs_loadAgg (ad := ⟨b4, 0, none⟩) (cs := [(.int .u64 x_.k), (.int .u64 x_.l), (.int .u64 x_.o), (.int .u64 x_.s), (.int .u64 x_.a), (.int .u64 x_.b), (.int .u64 x_.c), (.int .u64 x_.d), (.int .u64 x_.e), (.int .u64 x_.m)]) (by kernel_rfl) (cells_sub (hs177.heapAt 5 rfl) rfl)) ?_
            refine ops_R (v := (.bool (!((decide (r165.1.k = x_.k)) && ((decide (r165.1.l = x_.l)) && ((decide (r165.1.o = x_.o)) && ((decide (r165.1.s = x_.s)) && (((decide (r165.1.a = x_.a)) && ((decide (r165.1.b = x_.b)) && ((decide (r165.1.c = x_.c)) && ((decide (r165.1.d = x_.d)) && true)))) && ((decide (r165.1.e = x_.e)) && ((decide (r165.1.m = x_.m)) && true)))))))))) (runs_eq (b := !((decide (r165.1.k = x_.k)) && ((decide (r165.1.l = x_.l)) && ((decide (r165.1.o = x_.o)) && ((decide (r165.1.s = x_.s)) && (((decide (r165.1.a = x_.a)) && ((decide (r165.1.b = x_.b)) && ((decide (r165.1.c = x_.c)) && ((decide (r165.1.d = x_.d)) && true)))) && ((decide (r165.1.e = x_.e)) && ((decide (r165.1.m = x_.m)) && true)))))))) (by kernel_rfl)) ?_
            refine ops_run 2 (by kernel_rfl) ?_
            rcases Bool.eq_false_or_eq_true (!((decide (r165.1.k = x_.k)) && ((decide (r165.1.l = x_.l)) && ((decide (r165.1.o = x_.o)) && ((decide (r165.1.s = x_.s)) && (((decide (r165.1.a = x_.a)) && ((decide (r165.1.b = x_.b)) && ((decide (r165.1.c = x_.c)) && ((decide (r165.1.d = x_.d)) && true)))) && ((decide (r165.1.e = x_.e)) && ((decide (r165.1.m = x_.m)) && true)))))))) with h180 | h180
            rotate_left
            ·
              have h180p : r165.1.k = x_.k ∧ r165.1.l = x_.l ∧ r165.1.o = x_.o ∧ r165.1.s = x_.s ∧ (r165.1.a = x_.a ∧ r165.1.b = x_.b ∧ r165.1.c = x_.c ∧ r165.1.d = x_.d) ∧ r165.1.e = x_.e ∧ r165.1.m = x_.m := by simpa using (bnot_false h180)
              replace hm := ite_yes hm h180p
              refine ops_set 89 (v := .bool false) (eq_bool_of (by kernel_rfl) h180) ?_
              refine ops_set 87 (v := .bool false) (eq_bool_of (by kernel_rfl) h180) ?_
              refine ops_set 88 (v := .bool false) (eq_bool_of (by kernel_rfl) h180) ?_
              refine ops_run 4 (by kernel_rfl) ?_
              rcases Bool.eq_false_or_eq_true (decide ((r49.2.length : Int) > 10)) with h181 | h181
              ·
                have h181p : (r49.2.length : Int) > 10 := of_decide_eq_true h181
                replace hm := ite_yes hm h181p
                refine ops_set 93 (v := .bool true) (eq_bool_of (by kernel_rfl) h181) ?_
                refine ops_set 91 (v := .bool true) (eq_bool_of (by kernel_rfl) h181) ?_
                refine ops_set 92 (v := .bool true) (eq_bool_of (by kernel_rfl) h181) ?_
                refine ops_run 14 (by kernel_rfl) ?_
                refine ops_done (by kernel_rfl) ?_
                refine hK178 _ _ ?_
                clear hK178
                refine W.cond_true true (by kernel_rfl) rfl ?_
                refine W.seq fun K182 hK182 => ?_
                refine W.region ?_
                refine ops_run 1 (by kernel_rfl) ?_
                refine ops_done (by kernel_rfl) ?_
                refine hK182 _ _ ?_
                clear hK182
                refine W.ret (ret_seq ?_)
                have hs183 : St B w [] w175 [] := St.take (H := []) hs177
                refine ret_of (.bool false) (by kernel_rfl) ⟨_, ⟨congrArg Value.bool (some_inj hm), rfl⟩, hs183⟩
              ·
                have h181p : ¬ ((r49.2.length : Int) > 10) := of_decide_eq_false h181
                replace hm := ite_no hm h181p
                refine ops_set 93 (v := .bool false) (eq_bool_of (by kernel_rfl) h181) ?_
                refine ops_set 91 (v := .bool false) (eq_bool_of (by kernel_rfl) h181) ?_
                refine ops_set 92 (v := .bool false) (eq_bool_of (by kernel_rfl) h181) ?_
                refine ops_run 1 (by kernel_rfl) ?_
                refine ops_R (runs_loadAgg (ad := ⟨b21, 0, none⟩) (cs := [(.int .i64 1), (.int .i64 (2 + i_ % 20)), (.int .i64 (2 + b_ % 60))]) (by kernel_rfl) (cells_sub (hs177.heapAt 4 rfl) rfl)) ?_
                refine ops_run 1 (by kernel_rfl) ?_
                refine ops_R (runs_loadAgg (ad := ⟨b4, 0, none⟩) (cs := [(.int .u64 x_.k), (.int .u64 x_.l), (.int .u64 x_.o), (.int .u64 x_.s), (.int .u64 x_.a), (.int .u64 x_.b), (.int .u64 x_.c), (.int .u64 x_.d), (.int .u64 x_.e), (.int .u64 x_.m)]) (by kernel_rfl) (cells_sub (hs177.heapAt 5 rfl) rfl)) ?_
                obtain ⟨r184, h185, hm⟩ := bind_some hm
                replace h185 := some_inj h185
                have hs188 : St B w [] w175 [viewA (ptr b34) r28 r49.2, blk b174 (.cells [(.int .u64 r165.1.k), (.int .u64 r165.1.l), (.int .u64 r165.1.o), (.int .u64 r165.1.s), (.int .u64 r165.1.a), (.int .u64 r165.1.b), (.int .u64 r165.1.c), (.int .u64 r165.1.d), (.int .u64 r165.1.e), (.int .u64 r165.1.m)].toArray 54 (0, 0)), kWr.row a59 c60 r49.2, kU64.row a26 c27 r28, blk b21 (.cells [(.int .i64 1), (.int .i64 (2 + i_ % 20)), (.int .i64 (2 + b_ % 60))].toArray 56 (0, 0)), blk b4 (.cells [(.int .u64 x_.k), (.int .u64 x_.l), (.int .u64 x_.o), (.int .u64 x_.s), (.int .u64 x_.a), (.int .u64 x_.b), (.int .u64 x_.c), (.int .u64 x_.d), (.int .u64 x_.e), (.int .u64 x_.m)].toArray 54 (0, 0))] := hs177.front 2 (by simp)
                refine ops_call (pre := [viewA (ptr b34) r28 r49.2]) hs188 (by kernel_rfl) (ip_spec (b := b34) (img := r28) (l := r49.2) (gw := 1) (gi := (2 + i_ % 20)) (gb := (2 + b_ % 60)) (n_ := r46) (x_ := ⟨x_.k, x_.l, x_.o, x_.s, x_.a, x_.b, x_.c, x_.d, x_.e, x_.m⟩) B _) ?_
                rintro _ _ w189 ⟨hv186, hH187⟩ hs190
                rw [h185] at hv186
                try rw [h185] at hH187
                subst hv186 hH187
                have hs191 : St B w [] w189 [viewA (ptr b34) r28 r184.2, blk b174 (.cells [(.int .u64 r165.1.k), (.int .u64 r165.1.l), (.int .u64 r165.1.o), (.int .u64 r165.1.s), (.int .u64 r165.1.a), (.int .u64 r165.1.b), (.int .u64 r165.1.c), (.int .u64 r165.1.d), (.int .u64 r165.1.e), (.int .u64 r165.1.m)].toArray 54 (0, 0)), kWr.row a59 c60 r49.2, kU64.row a26 c27 r28, blk b21 (.cells [(.int .i64 1), (.int .i64 (2 + i_ % 20)), (.int .i64 (2 + b_ % 60))].toArray 56 (0, 0)), blk b4 (.cells [(.int .u64 x_.k), (.int .u64 x_.l), (.int .u64 x_.o), (.int .u64 x_.s), (.int .u64 x_.a), (.int .u64 x_.b), (.int .u64 x_.c), (.int .u64 x_.d), (.int .u64 x_.e), (.int .u64 x_.m)].toArray 54 (0, 0))] := hs190
                refine ops_run 3 (by kernel_rfl) ?_
                rcases Bool.eq_false_or_eq_true (!decide (r184.1 = 0)) with h192 | h192
                rotate_left
                ·
                  have h192p : r184.1 = 0 := of_decide_eq_true (bnot_false h192)
                  replace hm := ite_yes hm h192p
                  refine ops_set 101 (v := .bool false) (eq_bool_of (by kernel_rfl) h192) ?_
                  refine ops_set 99 (v := .bool false) (eq_bool_of (by kernel_rfl) h192) ?_
                  refine ops_set 100 (v := .bool false) (eq_bool_of (by kernel_rfl) h192) ?_
                  refine ops_run 1 (by kernel_rfl) ?_
                  refine ops_call (pre := []) hs191 (by kernel_rfl) (writes_spec (hv := (hs191.entAt 0 rfl viewA_at)) B _) ?_
                  rintro _ _ w195 ⟨a193, c194, rfl, rfl⟩ hs196
                  have hs197 : St B w [] w195 [kWr.row a193 c194 r184.2, viewA (ptr b34) r28 r184.2, blk b174 (.cells [(.int .u64 r165.1.k), (.int .u64 r165.1.l), (.int .u64 r165.1.o), (.int .u64 r165.1.s), (.int .u64 r165.1.a), (.int .u64 r165.1.b), (.int .u64 r165.1.c), (.int .u64 r165.1.d), (.int .u64 r165.1.e), (.int .u64 r165.1.m)].toArray 54 (0, 0)), kWr.row a59 c60 r49.2, kU64.row a26 c27 r28, blk b21 (.cells [(.int .i64 1), (.int .i64 (2 + i_ % 20)), (.int .i64 (2 + b_ % 60))].toArray 56 (0, 0)), blk b4 (.cells [(.int .u64 x_.k), (.int .u64 x_.l), (.int .u64 x_.o), (.int .u64 x_.s), (.int .u64 x_.a), (.int .u64 x_.b), (.int .u64 x_.c), (.int .u64 x_.d), (.int .u64 x_.e), (.int .u64 x_.m)].toArray 54 (0, 0))] := hs196
                  refine ops_run 4 (by kernel_rfl) ?_
                  refine ops_done (by kernel_rfl) ?_
                  refine hK178 _ _ ?_
                  clear hK178
                  refine W.cond (!decide ((r184.2.length : Int) = (r49.2.length : Int))) (by kernel_rfl) (fun h198 => ?_) (fun h198 => ?_)
                  rotate_left
                  ·
                    have h198p : (r184.2.length : Int) = (r49.2.length : Int) := of_decide_eq_true (bnot_false h198)
                    replace hm := ite_yes hm h198p
                    refine W.skip ?_
                    have hs199 : St B w [] w195 [blk b4 (.cells [(.int .u64 x_.k), (.int .u64 x_.l), (.int .u64 x_.o), (.int .u64 x_.s), (.int .u64 x_.a), (.int .u64 x_.b), (.int .u64 x_.c), (.int .u64 x_.d), (.int .u64 x_.e), (.int .u64 x_.m)].toArray 54 (0, 0)), kWr.row a193 c194 r184.2, viewA (ptr b34) r28 r184.2, blk b174 (.cells [(.int .u64 r165.1.k), (.int .u64 r165.1.l), (.int .u64 r165.1.o), (.int .u64 r165.1.s), (.int .u64 r165.1.a), (.int .u64 r165.1.b), (.int .u64 r165.1.c), (.int .u64 r165.1.d), (.int .u64 r165.1.e), (.int .u64 r165.1.m)].toArray 54 (0, 0)), kWr.row a59 c60 r49.2, kU64.row a26 c27 r28, blk b21 (.cells [(.int .i64 1), (.int .i64 (2 + i_ % 20)), (.int .i64 (2 + b_ % 60))].toArray 56 (0, 0))] := hs197.front 6 (by simp)
                    have hs200 : St B w [] w195 [blk b21 (.cells [(.int .i64 1), (.int .i64 (2 + i_ % 20)), (.int .i64 (2 + b_ % 60))].toArray 56 (0, 0)), blk b4 (.cells [(.int .u64 x_.k), (.int .u64 x_.l), (.int .u64 x_.o), (.int .u64 x_.s), (.int .u64 x_.a), (.int .u64 x_.b), (.int .u64 x_.c), (.int .u64 x_.d), (.int .u64 x_.e), (.int .u64 x_.m)].toArray 54 (0, 0)), kWr.row a193 c194 r184.2, viewA (ptr b34) r28 r184.2, blk b174 (.cells [(.int .u64 r165.1.k), (.int .u64 r165.1.l), (.int .u64 r165.1.o), (.int .u64 r165.1.s), (.int .u64 r165.1.a), (.int .u64 r165.1.b), (.int .u64 r165.1.c), (.int .u64 r165.1.d), (.int .u64 r165.1.e), (.int .u64 r165.1.m)].toArray 54 (0, 0)), kWr.row a59 c60 r49.2, kU64.row a26 c27 r28] := hs199.front 6 (by simp)
                    have hs201 : St B w [] w195 [kU64.row a26 c27 r28, blk b21 (.cells [(.int .i64 1), (.int .i64 (2 + i_ % 20)), (.int .i64 (2 + b_ % 60))].toArray 56 (0, 0)), blk b4 (.cells [(.int .u64 x_.k), (.int .u64 x_.l), (.int .u64 x_.o), (.int .u64 x_.s), (.int .u64 x_.a), (.int .u64 x_.b), (.int .u64 x_.c), (.int .u64 x_.d), (.int .u64 x_.e), (.int .u64 x_.m)].toArray 54 (0, 0)), kWr.row a193 c194 r184.2, viewA (ptr b34) r28 r184.2, blk b174 (.cells [(.int .u64 r165.1.k), (.int .u64 r165.1.l), (.int .u64 r165.1.o), (.int .u64 r165.1.s), (.int .u64 r165.1.a), (.int .u64 r165.1.b), (.int .u64 r165.1.c), (.int .u64 r165.1.d), (.int .u64 r165.1.e), (.int .u64 r165.1.m)].toArray 54 (0, 0)), kWr.row a59 c60 r49.2] := hs200.front 6 (by simp)
                    have hs202 : St B w [] w195 [viewA (ptr b34) r28 r184.2, kU64.row a26 c27 r28, blk b21 (.cells [(.int .i64 1), (.int .i64 (2 + i_ % 20)), (.int .i64 (2 + b_ % 60))].toArray 56 (0, 0)), blk b4 (.cells [(.int .u64 x_.k), (.int .u64 x_.l), (.int .u64 x_.o), (.int .u64 x_.s), (.int .u64 x_.a), (.int .u64 x_.b), (.int .u64 x_.c), (.int .u64 x_.d), (.int .u64 x_.e), (.int .u64 x_.m)].toArray 54 (0, 0)), kWr.row a193 c194 r184.2, blk b174 (.cells [(.int .u64 r165.1.k), (.int .u64 r165.1.l), (.int .u64 r165.1.o), (.int .u64 r165.1.s), (.int .u64 r165.1.a), (.int .u64 r165.1.b), (.int .u64 r165.1.c), (.int .u64 r165.1.d), (.int .u64 r165.1.e), (.int .u64 r165.1.m)].toArray 54 (0, 0)), kWr.row a59 c60 r49.2] := hs201.front 4 (by simp)
                    have hs203 : St B w [] w195 [kWr.row a59 c60 r49.2, viewA (ptr b34) r28 r184.2, kU64.row a26 c27 r28, blk b21 (.cells [(.int .i64 1), (.int .i64 (2 + i_ % 20)), (.int .i64 (2 + b_ % 60))].toArray 56 (0, 0)), blk b4 (.cells [(.int .u64 x_.k), (.int .u64 x_.l), (.int .u64 x_.o), (.int .u64 x_.s), (.int .u64 x_.a), (.int .u64 x_.b), (.int .u64 x_.c), (.int .u64 x_.d), (.int .u64 x_.e), (.int .u64 x_.m)].toArray 54 (0, 0)), kWr.row a193 c194 r184.2, blk b174 (.cells [(.int .u64 r165.1.k), (.int .u64 r165.1.l), (.int .u64 r165.1.o), (.int .u64 r165.1.s), (.int .u64 r165.1.a), (.int .u64 r165.1.b), (.int .u64 r165.1.c), (.int .u64 r165.1.d), (.int .u64 r165.1.e), (.int .u64 r165.1.m)].toArray 54 (0, 0))] := hs202.front 6 (by simp)
                    have hs204 : St B w [] w195 [kWr.row a59 c60 r49.2, viewA (ptr b34) r28 r184.2, kU64.row a26 c27 r28, blk b21 (.cells [(.int .i64 1), (.int .i64 (2 + i_ % 20)), (.int .i64 (2 + b_ % 60))].toArray 56 (0, 0)), blk b4 (.cells [(.int .u64 x_.k), (.int .u64 x_.l), (.int .u64 x_.o), (.int .u64 x_.s), (.int .u64 x_.a), (.int .u64 x_.b), (.int .u64 x_.c), (.int .u64 x_.d), (.int .u64 x_.e), (.int .u64 x_.m)].toArray 54 (0, 0))] := St.take (H := [kWr.row a59 c60 r49.2, viewA (ptr b34) r28 r184.2, kU64.row a26 c27 r28, blk b21 (.cells [(.int .i64 1), (.int .i64 (2 + i_ % 20)), (.int .i64 (2 + b_ % 60))].toArray 56 (0, 0)), blk b4 (.cells [(.int .u64 x_.k), (.int .u64 x_.l), (.int .u64 x_.o), (.int .u64 x_.s), (.int .u64 x_.a), (.int .u64 x_.b), (.int .u64 x_.c), (.int .u64 x_.d), (.int .u64 x_.e), (.int .u64 x_.m)].toArray 54 (0, 0))]) hs203
                    exact ⟨r184.2, slots_intro _ (by kernel_rfl), hs204, hm⟩
                  ·
                    have h198p : ¬ ((r184.2.length : Int) = (r49.2.length : Int)) := of_decide_eq_false (bnot_true h198)
                    replace hm := ite_no hm h198p
                    refine W.seq fun K205 hK205 => ?_
                    refine W.region ?_
                    refine ops_run 1 (by kernel_rfl) ?_
                    refine ops_done (by kernel_rfl) ?_
                    refine hK205 _ _ ?_
                    clear hK205
                    refine W.ret (ret_seq ?_)
                    have hs206 : St B w [] w195 [] := St.take (H := []) hs197
                    refine ret_of (.bool false) (by kernel_rfl) ⟨_, ⟨congrArg Value.bool (some_inj hm), rfl⟩, hs206⟩
                ·
                  have h192p : ¬ (r184.1 = 0) := of_decide_eq_false (bnot_true h192)
                  replace hm := ite_no hm h192p
                  refine ops_set 101 (v := .bool true) (eq_bool_of (by kernel_rfl) h192) ?_
                  refine ops_set 99 (v := .bool true) (eq_bool_of (by kernel_rfl) h192) ?_
                  refine ops_set 100 (v := .bool true) (eq_bool_of (by kernel_rfl) h192) ?_
                  refine ops_run 6 (by kernel_rfl) ?_
                  refine ops_done (by kernel_rfl) ?_
                  refine hK178 _ _ ?_
                  clear hK178
                  refine W.cond_true true (by kernel_rfl) rfl ?_
                  refine W.seq fun K207 hK207 => ?_
                  refine W.region ?_
                  refine ops_run 1 (by kernel_rfl) ?_
                  refine ops_done (by kernel_rfl) ?_
                  refine hK207 _ _ ?_
                  clear hK207
                  refine W.ret (ret_seq ?_)
                  have hs208 : St B w [] w189 [] := St.take (H := []) hs191
                  refine ret_of (.bool false) (by kernel_rfl) ⟨_, ⟨congrArg Value.bool (some_inj hm), rfl⟩, hs208⟩
            ·
              have h180p : ¬ (r165.1.k = x_.k ∧ r165.1.l = x_.l ∧ r165.1.o = x_.o ∧ r165.1.s = x_.s ∧ (r165.1.a = x_.a ∧ r165.1.b = x_.b ∧ r165.1.c = x_.c ∧ r165.1.d = x_.d) ∧ r165.1.e = x_.e ∧ r165.1.m = x_.m) := by simpa using (bnot_true h180)
              replace hm := ite_no hm h180p
              refine ops_set 89 (v := .bool true) (eq_bool_of (by kernel_rfl) h180) ?_
              refine ops_set 87 (v := .bool true) (eq_bool_of (by kernel_rfl) h180) ?_
              refine ops_set 88 (v := .bool true) (eq_bool_of (by kernel_rfl) h180) ?_
              refine ops_run 18 (by kernel_rfl) ?_
              refine ops_done (by kernel_rfl) ?_
              refine hK178 _ _ ?_
              clear hK178
              refine W.cond_true true (by kernel_rfl) rfl ?_
              refine W.seq fun K209 hK209 => ?_
              refine W.region ?_
              refine ops_run 1 (by kernel_rfl) ?_
              refine ops_done (by kernel_rfl) ?_
              refine hK209 _ _ ?_
              clear hK209
              refine W.ret (ret_seq ?_)
              have hs210 : St B w [] w175 [] := St.take (H := []) hs177
              refine ret_of (.bool false) (by kernel_rfl) ⟨_, ⟨congrArg Value.bool (some_inj hm), rfl⟩, hs210⟩
          ·
            have h179p : ¬ (r165.2 = 0) := of_decide_eq_false (bnot_true h179)
            replace hm := ite_no hm h179p
            refine ops_set 84 (v := .bool true) (eq_bool_of (by kernel_rfl) h179) ?_
            refine ops_set 83 (v := .bool true) (eq_bool_of (by kernel_rfl) h179) ?_
            refine ops_run 23 (by kernel_rfl) ?_
            refine ops_done (by kernel_rfl) ?_
            refine hK178 _ _ ?_
            clear hK178
            refine W.cond_true true (by kernel_rfl) rfl ?_
            refine W.seq fun K211 hK211 => ?_
            refine W.region ?_
            refine ops_run 1 (by kernel_rfl) ?_
            refine ops_done (by kernel_rfl) ?_
            refine hK211 _ _ ?_
            clear hK211
            refine W.ret (ret_seq ?_)
            have hs212 : St B w [] w175 [] := St.take (H := []) hs177
            refine ret_of (.bool false) (by kernel_rfl) ⟨_, ⟨congrArg Value.bool (some_inj hm), rfl⟩, hs212⟩
        ·
          have h163p : ¬ (r49.1 = 0) := of_decide_eq_false h163
          replace hm := ite_no hm h163p
          refine W.skip ?_
          exact ⟨r49.2, slots_intro _ (by kernel_rfl), hs63, hm⟩
    ·
      refine W.seq fun K213 hK213 => ?_
      refine W.region ?_
      refine ops_run 2 (by kernel_rfl) ?_
      refine ops_R (runs_loadAgg (ad := ⟨b21, 0, none⟩) (cs := [(.int .i64 1), (.int .i64 (2 + i_ % 20)), (.int .i64 (2 + b_ % 60))]) (by kernel_rfl) (cells_sub (hs55.heapAt 2 rfl) rfl)) ?_
      refine ops_R (runs_loadAgg (ad := ⟨b4, 0, none⟩) (cs := [(.int .u64 x_.k), (.int .u64 x_.l), (.int .u64 x_.o), (.int .u64 x_.s), (.int .u64 x_.a), (.int .u64 x_.b), (.int .u64 x_.c), (.int .u64 x_.d), (.int .u64 x_.e), (.int .u64 x_.m)]) (by kernel_rfl) (cells_sub (hs55.heapAt 3 rfl) rfl)) ?_
      refine ops_call (pre := []) hs55 (by kernel_rfl) (right_spec (gw := 1) (gi := (2 + i_ % 20)) (gb := (2 + b_ % 60)) (x_ := ⟨x_.k, x_.l, x_.o, x_.s, x_.a, x_.b, x_.c, x_.d, x_.e, x_.m⟩) B _) ?_
      rintro _ _ w214 ⟨rfl, rfl⟩ hs215
      have hs216 : St B w [] w214 [viewA (ptr b34) r28 r49.2, kU64.row a26 c27 r28, blk b21 (.cells [(.int .i64 1), (.int .i64 (2 + i_ % 20)), (.int .i64 (2 + b_ % 60))].toArray 56 (0, 0)), blk b4 (.cells [(.int .u64 x_.k), (.int .u64 x_.l), (.int .u64 x_.o), (.int .u64 x_.s), (.int .u64 x_.a), (.int .u64 x_.b), (.int .u64 x_.c), (.int .u64 x_.d), (.int .u64 x_.e), (.int .u64 x_.m)].toArray 54 (0, 0))] := hs215
      refine ops_run 2 (by kernel_rfl) ?_
      rcases Bool.eq_false_or_eq_true (!((decide (r49.1 = 0)) == (decide (RightP 1 (2 + i_ % 20) (2 + b_ % 60) ⟨x_.k, x_.l, x_.o, x_.s, x_.a, x_.b, x_.c, x_.d, x_.e, x_.m⟩)))) with h217 | h217
      rotate_left
      ·
        have h217p : ((r49.1 = 0) ↔ (RightP 1 (2 + i_ % 20) (2 + b_ % 60) ⟨x_.k, x_.l, x_.o, x_.s, x_.a, x_.b, x_.c, x_.d, x_.e, x_.m⟩)) := beq_yes decide_eq_true_iff decide_eq_true_iff (bnot_false h217)
        replace hm := ite_yes hm h217p
        refine ops_set 56 (v := .bool false) (eq_bool_of (by kernel_rfl) h217) ?_
        refine ops_set 55 (v := .bool false) (eq_bool_of (by kernel_rfl) h217) ?_
        refine ops_run 3 (by kernel_rfl) ?_
        rcases Bool.eq_false_or_eq_true (!decide (r49.1 = 0)) with h218 | h218
        rotate_left
        ·
          have h218p : r49.1 = 0 := of_decide_eq_true (bnot_false h218)
          replace hm := ite_yes hm h218p
          refine ops_set 59 (v := .bool false) (eq_bool_of (by kernel_rfl) h218) ?_
          refine ops_set 58 (v := .bool false) (eq_bool_of (by kernel_rfl) h218) ?_
          refine ops_run 10 (by kernel_rfl) ?_
          refine ops_done (by kernel_rfl) ?_
          refine hK213 _ _ ?_
          clear hK213
          refine W.cond_false false (by kernel_rfl) rfl ?_
          refine W.skip ?_
          exact ⟨slots_intro _ (by kernel_rfl), hs216, hm⟩
        ·
          have h218p : ¬ (r49.1 = 0) := of_decide_eq_false (bnot_true h218)
          replace hm := ite_no hm h218p
          refine ops_set 59 (v := .bool true) (eq_bool_of (by kernel_rfl) h218) ?_
          refine ops_set 58 (v := .bool true) (eq_bool_of (by kernel_rfl) h218) ?_
          refine ops_run 3 (by kernel_rfl) ?_
          rcases Bool.eq_false_or_eq_true (!decide (r49.1 = 1)) with h219 | h219
          rotate_left
          ·
            have h219p : r49.1 = 1 := of_decide_eq_true (bnot_false h219)
            replace hm := ite_yes hm h219p
            refine ops_set 62 (v := .bool false) (eq_bool_of (by kernel_rfl) h219) ?_
            refine ops_set 61 (v := .bool false) (eq_bool_of (by kernel_rfl) h219) ?_
            refine ops_run 1 (by kernel_rfl) ?_
            refine ops_call (pre := []) hs216 (by kernel_rfl) (writes_spec (hv := (hs216.entAt 0 rfl viewA_at)) B _) ?_
            rintro _ _ w222 ⟨a220, c221, rfl, rfl⟩ hs223
            have hs224 : St B w [] w222 [kWr.row a220 c221 r49.2, viewA (ptr b34) r28 r49.2, kU64.row a26 c27 r28, blk b21 (.cells [(.int .i64 1), (.int .i64 (2 + i_ % 20)), (.int .i64 (2 + b_ % 60))].toArray 56 (0, 0)), blk b4 (.cells [(.int .u64 x_.k), (.int .u64 x_.l), (.int .u64 x_.o), (.int .u64 x_.s), (.int .u64 x_.a), (.int .u64 x_.b), (.int .u64 x_.c), (.int .u64 x_.d), (.int .u64 x_.e), (.int .u64 x_.m)].toArray 54 (0, 0))] := hs223
            refine ops_run 5 (by kernel_rfl) ?_
            refine ops_done (by kernel_rfl) ?_
            refine hK213 _ _ ?_
            clear hK213
            refine W.cond (decide ((r49.2.length : Int) > 0)) (by kernel_rfl) (fun h225 => ?_) (fun h225 => ?_)
            ·
              have h225p : (r49.2.length : Int) > 0 := of_decide_eq_true h225
              replace hm := ite_yes hm h225p
              refine W.seq fun K226 hK226 => ?_
              refine W.region ?_
              refine ops_run 1 (by kernel_rfl) ?_
              refine ops_done (by kernel_rfl) ?_
              refine hK226 _ _ ?_
              clear hK226
              refine W.ret (ret_seq ?_)
              have hs227 : St B w [] w222 [] := St.take (H := []) hs224
              refine ret_of (.bool false) (by kernel_rfl) ⟨_, ⟨congrArg Value.bool (some_inj hm), rfl⟩, hs227⟩
            ·
              have h225p : ¬ ((r49.2.length : Int) > 0) := of_decide_eq_false h225
              replace hm := ite_no hm h225p
              refine W.skip ?_
              have hs228 : St B w [] w222 [blk b4 (.cells [(.int .u64 x_.k), (.int .u64 x_.l), (.int .u64 x_.o), (.int .u64 x_.s), (.int .u64 x_.a), (.int .u64 x_.b), (.int .u64 x_.c), (.int .u64 x_.d), (.int .u64 x_.e), (.int .u64 x_.m)].toArray 54 (0, 0)), kWr.row a220 c221 r49.2, viewA (ptr b34) r28 r49.2, kU64.row a26 c27 r28, blk b21 (.cells [(.int .i64 1), (.int .i64 (2 + i_ % 20)), (.int .i64 (2 + b_ % 60))].toArray 56 (0, 0))] := hs224.front 4 (by simp)
              have hs229 : St B w [] w222 [blk b21 (.cells [(.int .i64 1), (.int .i64 (2 + i_ % 20)), (.int .i64 (2 + b_ % 60))].toArray 56 (0, 0)), blk b4 (.cells [(.int .u64 x_.k), (.int .u64 x_.l), (.int .u64 x_.o), (.int .u64 x_.s), (.int .u64 x_.a), (.int .u64 x_.b), (.int .u64 x_.c), (.int .u64 x_.d), (.int .u64 x_.e), (.int .u64 x_.m)].toArray 54 (0, 0)), kWr.row a220 c221 r49.2, viewA (ptr b34) r28 r49.2, kU64.row a26 c27 r28] := hs228.front 4 (by simp)
              have hs230 : St B w [] w222 [kU64.row a26 c27 r28, blk b21 (.cells [(.int .i64 1), (.int .i64 (2 + i_ % 20)), (.int .i64 (2 + b_ % 60))].toArray 56 (0, 0)), blk b4 (.cells [(.int .u64 x_.k), (.int .u64 x_.l), (.int .u64 x_.o), (.int .u64 x_.s), (.int .u64 x_.a), (.int .u64 x_.b), (.int .u64 x_.c), (.int .u64 x_.d), (.int .u64 x_.e), (.int .u64 x_.m)].toArray 54 (0, 0)), kWr.row a220 c221 r49.2, viewA (ptr b34) r28 r49.2] := hs229.front 4 (by simp)
              have hs231 : St B w [] w222 [viewA (ptr b34) r28 r49.2, kU64.row a26 c27 r28, blk b21 (.cells [(.int .i64 1), (.int .i64 (2 + i_ % 20)), (.int .i64 (2 + b_ % 60))].toArray 56 (0, 0)), blk b4 (.cells [(.int .u64 x_.k), (.int .u64 x_.l), (.int .u64 x_.o), (.int .u64 x_.s), (.int .u64 x_.a), (.int .u64 x_.b), (.int .u64 x_.c), (.int .u64 x_.d), (.int .u64 x_.e), (.int .u64 x_.m)].toArray 54 (0, 0)), kWr.row a220 c221 r49.2] := hs230.front 4 (by simp)
              have hs232 : St B w [] w222 [viewA (ptr b34) r28 r49.2, kU64.row a26 c27 r28, blk b21 (.cells [(.int .i64 1), (.int .i64 (2 + i_ % 20)), (.int .i64 (2 + b_ % 60))].toArray 56 (0, 0)), blk b4 (.cells [(.int .u64 x_.k), (.int .u64 x_.l), (.int .u64 x_.o), (.int .u64 x_.s), (.int .u64 x_.a), (.int .u64 x_.b), (.int .u64 x_.c), (.int .u64 x_.d), (.int .u64 x_.e), (.int .u64 x_.m)].toArray 54 (0, 0))] := St.take (H := [viewA (ptr b34) r28 r49.2, kU64.row a26 c27 r28, blk b21 (.cells [(.int .i64 1), (.int .i64 (2 + i_ % 20)), (.int .i64 (2 + b_ % 60))].toArray 56 (0, 0)), blk b4 (.cells [(.int .u64 x_.k), (.int .u64 x_.l), (.int .u64 x_.o), (.int .u64 x_.s), (.int .u64 x_.a), (.int .u64 x_.b), (.int .u64 x_.c), (.int .u64 x_.d), (.int .u64 x_.e), (.int .u64 x_.m)].toArray 54 (0, 0))]) hs231
              exact ⟨slots_intro _ (by kernel_rfl), hs232, hm⟩
          ·
            have h219p : ¬ (r49.1 = 1) := of_decide_eq_false (bnot_true h219)
            replace hm := ite_no hm h219p
            refine ops_set 62 (v := .bool true) (eq_bool_of (by kernel_rfl) h219) ?_
            refine ops_set 61 (v := .bool true) (eq_bool_of (by kernel_rfl) h219) ?_
            refine ops_run 7 (by kernel_rfl) ?_
            refine ops_done (by kernel_rfl) ?_
            refine hK213 _ _ ?_
            clear hK213
            refine W.cond_true true (by kernel_rfl) rfl ?_
            refine W.seq fun K233 hK233 => ?_
            refine W.region ?_
            refine ops_run 1 (by kernel_rfl) ?_
            refine ops_done (by kernel_rfl) ?_
            refine hK233 _ _ ?_
            clear hK233
            refine W.ret (ret_seq ?_)
            have hs234 : St B w [] w214 [] := St.take (H := []) hs216
            refine ret_of (.bool false) (by kernel_rfl) ⟨_, ⟨congrArg Value.bool (some_inj hm), rfl⟩, hs234⟩
      ·
        have h217p : ¬ ((r49.1 = 0) ↔ (RightP 1 (2 + i_ % 20) (2 + b_ % 60) ⟨x_.k, x_.l, x_.o, x_.s, x_.a, x_.b, x_.c, x_.d, x_.e, x_.m⟩)) := beq_no decide_eq_true_iff decide_eq_true_iff (bnot_true h217)
        replace hm := ite_no hm h217p
        refine ops_set 56 (v := .bool true) (eq_bool_of (by kernel_rfl) h217) ?_
        refine ops_set 55 (v := .bool true) (eq_bool_of (by kernel_rfl) h217) ?_
        refine ops_run 13 (by kernel_rfl) ?_
        refine ops_done (by kernel_rfl) ?_
        refine hK213 _ _ ?_
        clear hK213
        refine W.cond_true true (by kernel_rfl) rfl ?_
        refine W.seq fun K235 hK235 => ?_
        refine W.region ?_
        refine ops_run 1 (by kernel_rfl) ?_
        refine ops_done (by kernel_rfl) ?_
        refine hK235 _ _ ?_
        clear hK235
        refine W.ret (ret_seq ?_)
        have hs236 : St B w [] w214 [] := St.take (H := []) hs216
        refine ret_of (.bool false) (by kernel_rfl) ⟨_, ⟨congrArg Value.bool (some_inj hm), rfl⟩, hs236⟩

end Go.Proofs.Ythimamnblklkbaa
