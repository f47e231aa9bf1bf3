/- What the code computes, by a program. -/
import Derived.Test.YthimamnblklkbaaK12
namespace Go.Proofs.Ythimamnblklkbaa
open Go Go.RowKit
set_option linter.unusedSimpArgs false
set_option linter.unusedVariables false

def image_J1 (gw : Int) (gi : Int) (gb : Int) (cut_ : Int) (q11 : List Int) : Option (List Int) :=
  need (-9223372036854775808 ≤ cut_ ∧ cut_ ≤ 9223372036854775807) <|
need (-9223372036854775808 ≤ ((((fmtW gw gi gb).length) : Int) - (mn cut_ (((fmtW gw gi gb).length) : Int))) ∧ ((((fmtW gw gi gb).length) : Int) - (mn cut_ (((fmtW gw gi gb).length) : Int))) ≤ 9223372036854775807) <|
need (0 ≤ ((((fmtW gw gi gb).length) : Int) - (mn cut_ (((fmtW gw gi gb).length) : Int))) ∧ ((((fmtW gw gi gb).length) : Int) - (mn cut_ (((fmtW gw gi gb).length) : Int))) ≤ (((fmtW gw gi gb).length) : Int)) <|
need ((fmtW gw gi gb).length = q11.length) <|
some (q11.take (((((fmtW gw gi gb).length) : Int) - (mn cut_ (((fmtW gw gi gb).length) : Int))).toNat))

def image_B0 (gw : Int) (gi : Int) (gb : Int) (ts : List TTn) (cut_ : Int) (k25 : ((List Int) × Int) → Option (List Int)) (q23 : List Int) (p24 : Int) : Option (List Int) :=
  if p24 < (ts.length : Int) then (if (((fmtW gw gi gb).length) : Int) > 0 then (need (0 ≤ p24 ∧ p24 < (ts.length : Int)) <|
need (-9223372036854775808 ≤ ((ts.getD p24.toNat dTn).c0) ∧ ((ts.getD p24.toNat dTn).c0) ≤ 9223372036854775807) <|
need (¬ ((((fmtW gw gi gb).length) : Int) = 0)) <|
need (0 ≤ p24 ∧ p24 < (ts.length : Int)) <|
need (0 ≤ (((ts.getD p24.toNat dTn).c0).tmod (((fmtW gw gi gb).length) : Int)) ∧ (((ts.getD p24.toNat dTn).c0).tmod (((fmtW gw gi gb).length) : Int)) < (((fmtW gw gi gb).length) : Int)) <|
need ((((ts.getD p24.toNat dTn).c0).tmod (((fmtW gw gi gb).length) : Int)).toNat < q23.length) <|
need (-9223372036854775808 ≤ (p24 + 1) ∧ (p24 + 1) ≤ 9223372036854775807) <|
k25 ((q23.set ((((ts.getD p24.toNat dTn).c0).tmod (((fmtW gw gi gb).length) : Int)).toNat) ((ts.getD p24.toNat dTn).c1)), (p24 + 1))) else (image_J1 gw gi gb cut_ q23)) else (image_J1 gw gi gb cut_ q23)

def image_M (gw : Int) (gi : Int) (gb : Int) (ts : List TTn) (cut_ : Int) : Option (List Int) :=
  iter (fun k_ s_ => image_B0 gw gi gb ts cut_ k_ s_.1 s_.2) FUEL ((fmtW gw gi gb), 0)

set_option maxRecDepth 20000 in
set_option maxHeartbeats 2000000 in
set_option linter.unusedVariables false in
theorem image_walk {gw : Int} {gi : Int} {gb : Int} {ts : List TTn} {cut_ : Int} {ta : Option Addr} {tc : Nat} {r : List Int} (B : Nat) (w : World) (ht : CellsAt ta (kTn.cells ts) w) (hm : image_M gw gi gb ts cut_ = some r) : Spec Try.prog 38 #[(.agg #[(.int .i64 gw), (.int .i64 gi), (.int .i64 gb)]), (.slice ta ts.length tc), (.int .u16 cut_)] B w [] (fun v H' => ∃ a' c', v = .slice a' r.length c' ∧ H' = [kU64.row a' c' r]) := by
  refine spec_Q Try.func38 rfl fun hs => ?_
  unfold image_M at hm
  refine W.seq fun K1 hK1 => ?_
  refine W.region ?_
  refine ops_new (fun b => .pointer (some ⟨b, 0, none⟩)) (.cells [(.int .i64 gw), (.int .i64 gi), (.int .i64 gb)].toArray 56 (0, 0)) hs (by kernel_rfl) (fun b4 w2 hs3 => ?_)
  refine ops_run 1 (by kernel_rfl) ?_
  refine ops_done (by kernel_rfl) ?_
  refine hK1 _ _ ?_
  clear hK1
  refine W.seq fun K5 hK5 => ?_
  refine W.region ?_
  refine ops_R (runs_loadAgg (ad := ⟨b4, 0, none⟩) (cs := [(.int .i64 gw), (.int .i64 gi), (.int .i64 gb)]) (by kernel_rfl) (cells_sub (hs3.heapAt 0 rfl) rfl)) ?_
  refine ops_call (pre := []) hs3 (by kernel_rfl) (format_spec (gw := gw) (gi := gi) (gb := gb) B _) ?_
  rintro _ _ w8 ⟨a6, c7, rfl, rfl⟩ hs9
  have hs10 : St B w [] w8 [kU64.row a6 c7 (fmtW gw gi gb), blk b4 (.cells [(.int .i64 gw), (.int .i64 gi), (.int .i64 gb)].toArray 56 (0, 0))] := hs9
  refine ops_run 1 (by kernel_rfl) ?_
  refine ops_done (by kernel_rfl) ?_
  refine hK5 _ _ ?_
  clear hK5
  refine W.seq_join (fun s_ w_ => ∃ (q11 : List Int), (∃ us, s_ = slots 48 [(2, (.int .u16 cut_)), (7, (.slice a6 ((fmtW gw gi gb).length) c7))] us) ∧ St B w [] w_ [kU64.row a6 c7 q11, blk b4 (.cells [(.int .i64 gw), (.int .i64 gi), (.int .i64 gb)].toArray 56 (0, 0))] ∧ image_J1 gw gi gb cut_ q11 = some r) ?_ ?_
  ·
    rintro _ w12 ⟨q11, ⟨us, rfl⟩, hs13, hm⟩
    unfold image_J1 at hm
    refine W.seq fun K14 hK14 => ?_
    refine W.region ?_
    refine ops_run 4 (by kernel_rfl) ?_
    obtain ⟨h15, hm⟩ := need_some hm
    refine ops_val (v := .int .i64 (IntKind.i64.wrap cut_)) (v' := .int .i64 cut_) (by kernel_rfl) (congrArg (Value.int .i64) (wrap_i64 h15.1 h15.2)) ?_
    refine ops_run 3 (by kernel_rfl) ?_
    obtain ⟨h16, hm⟩ := need_some hm
    refine ops_val (v := .int .i64 (IntKind.i64.wrap ((((fmtW gw gi gb).length) : Int) - (mn cut_ (((fmtW gw gi gb).length) : Int))))) (v' := .int .i64 ((((fmtW gw gi gb).length) : Int) - (mn cut_ (((fmtW gw gi gb).length) : Int)))) (by kernel_rfl) (congrArg (Value.int .i64) (wrap_i64 h16.1 h16.2)) ?_
    obtain ⟨h17, hm⟩ := need_some hm
    have hc18 := St.kcap kU64 hs13 0 rfl
    obtain ⟨h19, hm⟩ := need_some hm
    rw [← h19] at hc18
    refine ops_R (runs_prefix (a := a6) (n := (fmtW gw gi gb).length) (c := c7) (z := ((((fmtW gw gi gb).length) : Int) - (mn cut_ (((fmtW gw gi gb).length) : Int)))) (size := 1) (((((fmtW gw gi gb).length) : Int) - (mn cut_ (((fmtW gw gi gb).length) : Int))).toNat) (nat_of h17.1) (le_toNat h17) hc18 (by kernel_rfl)) ?_
    refine ops_run 1 (by kernel_rfl) ?_
    refine ops_done (by kernel_rfl) ?_
    refine hK14 _ _ ?_
    clear hK14
    refine W.ret ?_
    have hs20 := St.kprefix kU64 (((((fmtW gw gi gb).length) : Int) - (mn cut_ (((fmtW gw gi gb).length) : Int))).toNat) hs13
    have hs21 : St B w [] w12 [kU64.row a6 c7 (q11.take (((((fmtW gw gi gb).length) : Int) - (mn cut_ (((fmtW gw gi gb).length) : Int))).toNat))] := St.take (H := [kU64.row a6 c7 (q11.take (((((fmtW gw gi gb).length) : Int) - (mn cut_ (((fmtW gw gi gb).length) : Int))).toNat))]) hs20
    obtain rfl := some_inj hm
    refine ret_of (.slice a6 (((((fmtW gw gi gb).length) : Int) - (mn cut_ (((fmtW gw gi gb).length) : Int))).toNat) c7) (by kernel_rfl) ⟨_, ⟨a6, c7, congrArg (fun n_ => Value.slice a6 n_ c7) (take_len (by omega)), rfl⟩, hs21⟩
  ·
    refine W.seq fun K22 hK22 => ?_
    refine W.region ?_
    refine ops_run 1 (by kernel_rfl) ?_
    refine ops_done (by kernel_rfl) ?_
    refine hK22 _ _ ?_
    clear hK22
    refine W.block ?_
    refine W.loop_iter (G := (List Int) × Int) (σ := (List Int) × Int) (fun | (q23, p24) => (q23, p24)) (fun | (q23, p24), s_, w_ => (∃ us, s_ = slots 48 [(1, (.slice ta ts.length tc)), (2, (.int .u16 cut_)), (7, (.slice a6 ((fmtW gw gi gb).length) c7)), (8, (.int .i64 p24))] us) ∧ St B w [] w_ [kU64.row a6 c7 q23, blk b4 (.cells [(.int .i64 gw), (.int .i64 gi), (.int .i64 gb)].toArray 56 (0, 0))]) ((fmtW gw gi gb), 0) ⟨slots_intro _ (by kernel_rfl), hs10⟩ hm ?_
    rintro k25 ih26 ⟨q23, p24⟩ _ w27 ⟨⟨us, rfl⟩, hs28⟩ hm
    replace hm : image_B0 gw gi gb ts cut_ k25 q23 p24 = some r := hm
    unfold image_B0 at hm
    refine W.seq fun K29 hK29 => ?_
    refine W.seq fun K30 hK30 => ?_
    refine W.region ?_
    refine ops_run 5 (by kernel_rfl) ?_
    rcases Bool.eq_false_or_eq_true (decide (p24 < (ts.length : Int))) with h31 | h31
    ·
      have h31p : p24 < (ts.length : Int) := of_decide_eq_true h31
      replace hm := ite_yes hm h31p
      refine ops_set 15 (v := .bool true) (eq_bool_of (by kernel_rfl) h31) ?_
      refine ops_set 14 (v := .bool true) (eq_bool_of (by kernel_rfl) h31) ?_
      refine ops_run 4 (by kernel_rfl) ?_
      refine ops_done (by kernel_rfl) ?_
      refine hK30 _ _ ?_
      clear hK30
      refine W.cond (decide ((((fmtW gw gi gb).length) : Int) > 0)) (by kernel_rfl) (fun h32 => ?_) (fun h32 => ?_)
      ·
        have h32p : (((fmtW gw gi gb).length) : Int) > 0 := of_decide_eq_true h32
        replace hm := ite_yes hm h32p
        refine W.skip ?_
        refine hK29 _ _ ?_
        clear hK29
        refine W.seq fun K33 hK33 => ?_
        refine W.block ?_
        have hs34 := hs28.drew
        have hs35 : St B w [] w27.drew [blk b4 (.cells [(.int .i64 gw), (.int .i64 gi), (.int .i64 gb)].toArray 56 (0, 0)), kU64.row a6 c7 q23] := hs34.front 1 (by simp)
        have hs36 : St B w [] w27.drew [blk b4 (.cells [(.int .i64 gw), (.int .i64 gi), (.int .i64 gb)].toArray 56 (0, 0))] := St.take (H := [blk b4 (.cells [(.int .i64 gw), (.int .i64 gi), (.int .i64 gb)].toArray 56 (0, 0))]) hs35
        refine W.regionD [(0, 0), (0, 0), (0, 0), (6, 6), (8, 8), (16, 16), (32, 32), (0, 0), (128, 128), (320, 320), (0, 0), (0, 0), (3072, 3072), (4096, 4096), (8192, 8192), (32767, 513), (65535, 49152)] (fun w_ => St B w [] w_ [blk b4 (.cells [(.int .i64 gw), (.int .i64 gi), (.int .i64 gb)].toArray 56 (0, 0))]) (by kernel_rfl) hs36 ?_
        refine any_val (v := (.slice a6 ((fmtW gw gi gb).length) c7)) (v' := (.slice a6 ((fmtW gw gi gb).length) c7)) 0 (by kernel_rfl) (fun _ => by kernel_rfl) rfl hs36 ?_
        refine any_val (v := (.slice ta ts.length tc)) (v' := (.slice ta ts.length tc)) 1 (by kernel_rfl) (fun _ => by kernel_rfl) rfl hs36 ?_
        refine any_val (v := (.int .i64 p24)) (v' := (.int .i64 p24)) 2 (by kernel_rfl) (fun _ => by kernel_rfl) rfl hs36 ?_
        obtain ⟨h38, hm⟩ := need_some hm
        have hk37 := lt_toNat h38
        refine any_R 3 (by kernel_rfl) (fun _ hS_ => runs_index (a := ta) (n := ts.length) (z := p24) (size := 2) p24.toNat (nat_of h38.1) hk37 (kTn.addr (hs34.oldCells ht) hk37) (by kernel_rfl)) hs36 ?_
        refine any_val (v := (.pointer (some (adr ta (p24.toNat * 2))))) (v' := (.pointer (some (adr ta (p24.toNat * 2))))) 4 (by kernel_rfl) (fun _ => by kernel_rfl) rfl hs36 ?_
        refine any_R 5 (by kernel_rfl) (fun _ hS_ => runs_load (ad := ((adr ta (p24.toNat * 2)).add 0)) (v := (.int .u16 ((ts.getD p24.toNat dTn).c0))) (by kernel_rfl) (kTn.at (hS_.oldCells ht) hk37 dTn 0 rfl)) hs36 ?_
        obtain ⟨h39, hm⟩ := need_some hm
        refine any_val (v := .int .i64 (IntKind.i64.wrap ((ts.getD p24.toNat dTn).c0))) (v' := .int .i64 ((ts.getD p24.toNat dTn).c0)) 6 (by kernel_rfl) (fun _ => by kernel_rfl) (congrArg (Value.int .i64) (wrap_i64 h39.1 h39.2)) hs36 ?_
        refine any_val (v := (.slice a6 ((fmtW gw gi gb).length) c7)) (v' := (.slice a6 ((fmtW gw gi gb).length) c7)) 7 (by kernel_rfl) (fun _ => by kernel_rfl) rfl hs36 ?_
        refine any_val (v := (.int .i64 (((fmtW gw gi gb).length) : Int))) (v' := (.int .i64 (((fmtW gw gi gb).length) : Int))) 8 (by kernel_rfl) (fun _ => by kernel_rfl) rfl hs36 ?_
        obtain ⟨h40, hm⟩ := need_some hm
        refine any_R (v := .int .i64 (((ts.getD p24.toNat dTn).c0).tmod (((fmtW gw gi gb).length) : Int))) 9 (by kernel_rfl) (fun _ hS_ => runs_rem (k := .i64) (a := (ts.getD p24.toNat dTn).c0) (b := (((fmtW gw gi gb).length) : Int)) (by kernel_rfl) h40 rfl) hs36 ?_
        refine any_val (v := (.slice ta ts.length tc)) (v' := (.slice ta ts.length tc)) 10 (by kernel_rfl) (fun _ => by kernel_rfl) rfl hs36 ?_
        refine any_val (v := (.int .i64 p24)) (v' := (.int .i64 p24)) 11 (by kernel_rfl) (fun _ => by kernel_rfl) rfl hs36 ?_
        obtain ⟨h42, hm⟩ := need_some hm
        have hk41 := lt_toNat h42
        refine any_R 12 (by kernel_rfl) (fun _ hS_ => runs_index (a := ta) (n := ts.length) (z := p24) (size := 2) p24.toNat (nat_of h42.1) hk41 (kTn.addr (hs34.oldCells ht) hk41) (by kernel_rfl)) hs36 ?_
        refine any_val (v := (.pointer (some ((adr ta (p24.toNat * 2)).add 1)))) (v' := (.pointer (some ((adr ta (p24.toNat * 2)).add 1)))) 13 (by kernel_rfl) (fun _ => by kernel_rfl) rfl hs36 ?_
        refine any_R 14 (by kernel_rfl) (fun _ hS_ => runs_load (ad := ((adr ta (p24.toNat * 2)).add 1)) (v := (.int .u64 ((ts.getD p24.toNat dTn).c1))) (by kernel_rfl) (kTn.at (hS_.oldCells ht) hk41 dTn 1 rfl)) hs36 ?_
        obtain ⟨h44, hm⟩ := need_some hm
        have hk43 := lt_toNat h44
        obtain ⟨h46, hm⟩ := need_some hm
        have hk45 := h46
        refine any_R 15 (by kernel_rfl) (fun _ hS_ => runs_index (a := a6) (n := (fmtW gw gi gb).length) (z := (((ts.getD p24.toNat dTn).c0).tmod (((fmtW gw gi gb).length) : Int))) (size := 1) ((((ts.getD p24.toNat dTn).c0).tmod (((fmtW gw gi gb).length) : Int)).toNat) (nat_of h44.1) hk43 (kU64.addr (St.kcells kU64 hs34 0 rfl) hk45) (by kernel_rfl)) hs36 ?_
        refine any_step 16 (by kernel_rfl) (by kernel_rfl) ?_
        refine ops_storeK kU64 (j := 0) (vs := [(.int .u64 ((ts.getD p24.toNat dTn).c1))]) 0 ((ts.getD p24.toNat dTn).c1) hs34 hk45 (Nat.le_of_ble_eq_true rfl) (by simp) rfl rfl (by kernel_rfl) (fun w47 hs48 => ?_)
        have hs50 : St B w [] w47 [blk b4 (.cells [(.int .i64 gw), (.int .i64 gi), (.int .i64 gb)].toArray 56 (0, 0)), kU64.row a6 c7 (q23.set ((((ts.getD p24.toNat dTn).c0).tmod (((fmtW gw gi gb).length) : Int)).toNat) ((ts.getD p24.toNat dTn).c1))] := hs48.front 1 (by simp)
        have hs51 : St B w [] w47 [blk b4 (.cells [(.int .i64 gw), (.int .i64 gi), (.int .i64 gb)].toArray 56 (0, 0))] := St.take (H := [blk b4 (.cells [(.int .i64 gw), (.int .i64 gi), (.int .i64 gb)].toArray 56 (0, 0))]) hs50
        refine ops_done (by kernel_rfl) ⟨hs51, ?_⟩
        refine any_done (by kernel_rfl) ?_
        refine normal_block ?_
        refine hK33 _ _ ?_
        clear hK33
        refine W.region ?_
        refine ops_run 1 (by kernel_rfl) ?_
        obtain ⟨h52, hm⟩ := need_some hm
        refine ops_val (v := .int .i64 (IntKind.i64.wrap (p24 + 1))) (v' := .int .i64 (p24 + 1)) (by kernel_rfl) (congrArg (Value.int .i64) (wrap_i64 h52.1 h52.2)) ?_
        refine ops_run 1 (by kernel_rfl) ?_
        refine ops_done (by kernel_rfl) ?_
        refine loopAt_next ?_
        exact ih26 ((q23.set ((((ts.getD p24.toNat dTn).c0).tmod (((fmtW gw gi gb).length) : Int)).toNat) ((ts.getD p24.toNat dTn).c1)), (p24 + 1)) _ _ ⟨slots_intro _ (by kernel_rfl), hs48⟩ hm
      ·
        have h32p : ¬ ((((fmtW gw gi gb).length) : Int) > 0) := of_decide_eq_false h32
        replace hm := ite_no hm h32p
        refine W.exit (exit_seq (exit_seq (exit_here ?_)))
        exact ⟨q23, slots_intro _ (by kernel_rfl), hs28, hm⟩
    ·
      have h31p : ¬ (p24 < (ts.length : Int)) := of_decide_eq_false h31
      replace hm := ite_no hm h31p
      refine ops_set 15 (v := .bool false) (eq_bool_of (by kernel_rfl) h31) ?_
      refine ops_set 14 (v := .bool false) (eq_bool_of (by kernel_rfl) h31) ?_
      refine ops_run 4 (by kernel_rfl) ?_
      refine ops_done (by kernel_rfl) ?_
      refine hK30 _ _ ?_
      clear hK30
      refine W.cond_false false (by kernel_rfl) rfl ?_
      refine W.exit (exit_seq (exit_seq (exit_here ?_)))
      exact ⟨q23, slots_intro _ (by kernel_rfl), hs28, hm⟩

end Go.Proofs.Ythimamnblklkbaa
