/- Contracts of layer 6, by a program. -/
import Derived.Test.YthimamnblklkbaaDoorLb
namespace Go.Proofs.YthimamnblklkbaaDoor
open Go Go.RowKit
set_option linter.unusedSimpArgs false
set_option linter.unusedVariables false

set_option maxRecDepth 20000 in
set_option maxHeartbeats 2000000 in
theorem words1_spec {mb vb cb yl : Nat} {img : List Int} {l : List (Int × Int)} {at_ many : Int} {w00 : World} {Y : Nat → Asn} {Z : Asn} (B : Nat) (w : World) (hM : (0 ≤ at_ ∧ at_ ≤ 1000000000000) ∧ (1 ≤ many ∧ many ≤ 1000000000000)) (hmb : w00.heap[mb]? = some (.cells [(.pointer (some ⟨vb, 0, none⟩)), (.int .i64 at_), (.int .i64 many)].toArray 151 (0, 0))) (hv : ViewAt (ptr vb) img l w00) (hy : ∀ k : Nat, 64 * (k : Int) < many → ∀ w', YSpec Tryd.prog yl #[.int .i64 (64 * (k : Int)), .int .u64 (mwordAt img l at_ many k)] B w' [Y k] (fun v H' => (v = .bool true ∧ H' = [Y (k + 1)]) ∨ (v = .bool false ∧ H' = [Z]))) : Spec Tryd.prog 140 #[(.func (.yield yl) #[] #[]), (.pointer (some ⟨cb, 0, none⟩))] B w [keepA w00, blk cb (.cells [(.pointer (some ⟨mb, 0, none⟩))].toArray 22 (0, 0)), Y 0] (fun v H' => v = .tuple #[] ∧ (H' = [keepA w00, blk cb (.cells [(.pointer (some ⟨mb, 0, none⟩))].toArray 22 (0, 0)), Y (nWords many)] ∨ H' = [keepA w00, blk cb (.cells [(.pointer (some ⟨mb, 0, none⟩))].toArray 22 (0, 0)), Z])) := by
  refine spec_W Tryd.func140 rfl fun l0 hs => ?_
  refine W.seq fun K1 hK1 => ?_
  refine W.seq fun K2 hK2 => ?_
  refine W.region ?_
  refine ops_R (runs_load (ad := ⟨cb, 0, none⟩) (v := (.pointer (some ⟨mb, 0, none⟩))) (by kernel_rfl) (hs.cellAt 1 rfl rfl)) ?_
  refine ops_run 1 (by kernel_rfl) ?_
  refine ops_done (by kernel_rfl) ?_
  refine hK2 _ _ ?_
  clear hK2
  refine W.cond_false false (by kernel_rfl) rfl ?_
  refine W.skip ?_
  refine hK1 _ _ ?_
  clear hK1
  refine W.seq fun K3 hK3 => ?_
  refine W.region ?_
  refine ops_run 1 (by kernel_rfl) ?_
  refine ops_done (by kernel_rfl) ?_
  refine hK3 _ _ ?_
  clear hK3
  refine W.block ?_
  refine W.loop (G := Nat) (fun | k, s_, w_ => (∃ us, s_ = slots 46 [(0, (.func (.yield yl) #[] #[])), (1, (.pointer (some ⟨cb, 0, none⟩))), (3, (.int .i64 (64 * (k : Int))))] us) ∧ St B w l0 w_ [keepA w00, blk cb (.cells [(.pointer (some ⟨mb, 0, none⟩))].toArray 22 (0, 0)), Y k] ∧ (64 * (k : Int) < many + 64)) (fun k => (many - 64 * (k : Int)).toNat) 0 ⟨slots_intro _ (by kernel_rfl), hs, by omega⟩ ?_
  rintro k _ w4 ⟨⟨us, rfl⟩, hs5, hk0⟩
  refine W.seq fun K6 hK6 => ?_
  refine W.seq fun K7 hK7 => ?_
  refine W.region ?_
  refine ops_run 1 (by kernel_rfl) ?_
  refine ops_R (runs_load (ad := ⟨cb, 0, none⟩) (v := (.pointer (some ⟨mb, 0, none⟩))) (by kernel_rfl) (hs5.cellAt 1 rfl rfl)) ?_
  refine ops_run 2 (by kernel_rfl) ?_
  refine ops_R (runs_load (ad := ⟨mb, 2, none⟩) (v := (.int .i64 many)) (by kernel_rfl) (cell_of_blk ((St.kept hs5 0 rfl).blk hmb) rfl)) ?_
  refine ops_run 1 (by kernel_rfl) ?_
  refine ops_done (by kernel_rfl) ?_
  refine hK7 _ _ ?_
  clear hK7
  refine W.cond (decide ((64 * (k : Int)) < many)) (by kernel_rfl) (fun h8 => ?_) (fun h8 => ?_)
  ·
    have h8p : (64 * (k : Int)) < many := of_decide_eq_true h8
    refine W.skip ?_
    refine hK6 _ _ ?_
    clear hK6
    refine W.seq fun K9 hK9 => ?_
    refine W.block ?_
    refine W.seq fun K10 hK10 => ?_
    have hs11 := hs5.drew
    refine W.regionD [(0, 0), (1, 1), (2, 2), (4, 4), (0, 0), (16, 16), (32, 32), (64, 64), (0, 0), (256, 256), (640, 640), (1032, 1032), (4095, 2048)] (fun w_ => St B w l0 w_ [keepA w00, blk cb (.cells [(.pointer (some ⟨mb, 0, none⟩))].toArray 22 (0, 0)), Y k]) (by kernel_rfl) hs11 ?_
    refine any_R 0 (by kernel_rfl) (fun _ hS_ => runs_load (ad := ⟨cb, 0, none⟩) (v := (.pointer (some ⟨mb, 0, none⟩))) (by kernel_rfl) (hS_.cellAt 1 rfl rfl)) hs11 ?_
    refine any_val (v := (.pointer (some ⟨mb, 0, none⟩))) (v' := (.pointer (some ⟨mb, 0, none⟩))) 1 (by kernel_rfl) (fun _ => by kernel_rfl) rfl hs11 ?_
    refine any_val (v := (.pointer (some ⟨mb, 0, none⟩))) (v' := (.pointer (some ⟨mb, 0, none⟩))) 2 (by kernel_rfl) (fun _ => by kernel_rfl) rfl hs11 ?_
    refine any_R 3 (by kernel_rfl) (fun _ hS_ => runs_load (ad := ⟨mb, 0, none⟩) (v := (.pointer (some ⟨vb, 0, none⟩))) (by kernel_rfl) (cell_of_blk ((St.kept hS_ 0 rfl).blk hmb) rfl)) hs11 ?_
    refine any_R 4 (by kernel_rfl) (fun _ hS_ => runs_load (ad := ⟨cb, 0, none⟩) (v := (.pointer (some ⟨mb, 0, none⟩))) (by kernel_rfl) (hS_.cellAt 1 rfl rfl)) hs11 ?_
    refine any_val (v := (.pointer (some ⟨mb, 0, none⟩))) (v' := (.pointer (some ⟨mb, 0, none⟩))) 5 (by kernel_rfl) (fun _ => by kernel_rfl) rfl hs11 ?_
    refine any_val (v := (.pointer (some ⟨mb, 1, none⟩))) (v' := (.pointer (some ⟨mb, 1, none⟩))) 6 (by kernel_rfl) (fun _ => by kernel_rfl) rfl hs11 ?_
    refine any_R 7 (by kernel_rfl) (fun _ hS_ => runs_load (ad := ⟨mb, 1, none⟩) (v := (.int .i64 at_)) (by kernel_rfl) (cell_of_blk ((St.kept hS_ 0 rfl).blk hmb) rfl)) hs11 ?_
    refine any_val (v := (.int .i64 (64 * (k : Int)))) (v' := (.int .i64 (64 * (k : Int)))) 8 (by kernel_rfl) (fun _ => by kernel_rfl) rfl hs11 ?_
    have h12 : 0 ≤ (64 * (k : Int)) := by omega
    have h13 : -9223372036854775808 ≤ ((64 * (k : Int)) / 64) ∧ ((64 * (k : Int)) / 64) ≤ 9223372036854775807 := by omega
    refine any_R (v := .int .i64 ((64 * (k : Int)) / 64)) 9 (by kernel_rfl) (fun _ hS_ => runs_quo (k := .i64) (a := (64 * (k : Int))) (b := 64) (by kernel_rfl) (by decide) ((congrArg IntKind.i64.wrap (Int.tdiv_eq_ediv_of_nonneg h12)).trans (wrap_i64 h13.1 h13.2))) hs11 ?_
    have h14 : -9223372036854775808 ≤ (at_ + ((64 * (k : Int)) / 64)) ∧ (at_ + ((64 * (k : Int)) / 64)) ≤ 9223372036854775807 := by omega
    refine any_val (v := .int .i64 (IntKind.i64.wrap (at_ + ((64 * (k : Int)) / 64)))) (v' := .int .i64 (at_ + ((64 * (k : Int)) / 64))) 10 (by kernel_rfl) (fun _ => by kernel_rfl) (congrArg (Value.int .i64) (wrap_i64 h14.1 h14.2)) hs11 ?_
    refine any_step 11 (by kernel_rfl) (by kernel_rfl) ?_
    refine ops_call (pre := []) hs11 (by kernel_rfl) (get_spec (at_ := (at_ + ((64 * (k : Int)) / 64))) (hv := ((St.kept hs11 0 rfl).view hv)) B _) ?_
    rintro _ _ w15 ⟨rfl, rfl⟩ hs16
    have hs17 : St B w l0 w15 [keepA w00, blk cb (.cells [(.pointer (some ⟨mb, 0, none⟩))].toArray 22 (0, 0)), Y k] := hs16
    refine ops_done (by kernel_rfl) ⟨hs17, ?_⟩
    refine any_val (v := (.int .u64 (vget img l (at_ + ((64 * (k : Int)) / 64))))) (v' := (.int .u64 (vget img l (at_ + ((64 * (k : Int)) / 64))))) 12 (by kernel_rfl) (fun _ => by kernel_rfl) rfl hs17 ?_
    refine any_done (by kernel_rfl) ?_
    refine hK10 _ _ ?_
    clear hK10
    refine W.seq fun K18 hK18 => ?_
    refine W.seq fun K19 hK19 => ?_
    refine W.region ?_
    refine ops_R (runs_load (ad := ⟨cb, 0, none⟩) (v := (.pointer (some ⟨mb, 0, none⟩))) (by kernel_rfl) (hs17.cellAt 1 rfl rfl)) ?_
    refine ops_run 2 (by kernel_rfl) ?_
    refine ops_R (runs_load (ad := ⟨mb, 2, none⟩) (v := (.int .i64 many)) (by kernel_rfl) (cell_of_blk ((St.kept hs17 0 rfl).blk hmb) rfl)) ?_
    refine ops_run 1 (by kernel_rfl) ?_
    have h20 : -9223372036854775808 ≤ (many - (64 * (k : Int))) ∧ (many - (64 * (k : Int))) ≤ 9223372036854775807 := by omega
    refine ops_val (v := .int .i64 (IntKind.i64.wrap (many - (64 * (k : Int))))) (v' := .int .i64 (many - (64 * (k : Int)))) (by kernel_rfl) (congrArg (Value.int .i64) (wrap_i64 h20.1 h20.2)) ?_
    refine ops_run 1 (by kernel_rfl) ?_
    refine ops_done (by kernel_rfl) ?_
    refine hK19 _ _ ?_
    clear hK19
    refine W.seq fun K21 hK21 => ?_
    refine W.region ?_
    refine ops_run 2 (by kernel_rfl) ?_
    refine ops_done (by kernel_rfl) ?_
    refine hK21 _ _ ?_
    clear hK21
    refine W.cond (decide ((many - (64 * (k : Int))) < 64)) (by kernel_rfl) (fun h22 => ?_) (fun h22 => ?_)
    ·
      have h22p : (many - (64 * (k : Int))) < 64 := of_decide_eq_true h22
      refine W.region ?_
      refine ops_run 2 (by kernel_rfl) ?_
      have h23 : 0 ≤ (many - (64 * (k : Int))) := by omega
      refine ops_R (v := .int .u64 (shlK .u64 1 (many - (64 * (k : Int))))) (runs_shift (b := true) (k := .u64) (x := 1) (y := (many - (64 * (k : Int)))) (by kernel_rfl) h23) ?_
      refine ops_val (v := .int .u64 (IntKind.u64.wrap ((shlK .u64 1 (many - (64 * (k : Int)))) - 1))) (v' := .int .u64 (((shlK .u64 1 (many - (64 * (k : Int)))) - 1) % 18446744073709551616)) (by kernel_rfl) (congrArg (Value.int .u64) (wrap_u64_mod _)) ?_
      refine ops_run 2 (by kernel_rfl) ?_
      refine ops_done (by kernel_rfl) ?_
      refine hK18 _ _ ?_
      clear hK18
      refine W.seq fun K24 hK24 => ?_
      refine W.region ?_
      refine ops_run 3 (by kernel_rfl) ?_
      have hw_ : (bits .and .u64 (vget img l (at_ + ((64 * (k : Int)) / 64))) (((shlK .u64 1 (many - (64 * (k : Int)))) - 1) % 18446744073709551616)) = mwordAt img l at_ many k := by exact mword_part (by omega) (by omega)
      refine ops_set 43 (v := .int .u64 (mwordAt img l at_ many k)) (Eq.trans (by kernel_rfl) (congrArg (Value.int .u64) hw_)) ?_
      have hs25 : St B w l0 w15 [Y k, keepA w00, blk cb (.cells [(.pointer (some ⟨mb, 0, none⟩))].toArray 22 (0, 0))] := hs17.front 2 (by simp)
      refine ops_yield (pre := [Y k]) (l := yl) hs25 (by kernel_rfl) (by kernel_rfl) (hy k (by omega) _) ?_
      rintro _ _ w26 (⟨rfl, rfl⟩ | ⟨rfl, rfl⟩) hs27
      ·
        have hs28 : St B w l0 w26 [Y (k + 1), keepA w00, blk cb (.cells [(.pointer (some ⟨mb, 0, none⟩))].toArray 22 (0, 0))] := hs27
        refine ops_run 1 (by kernel_rfl) ?_
        refine ops_done (by kernel_rfl) ?_
        refine hK24 _ _ ?_
        clear hK24
        refine W.cond_false false (by kernel_rfl) rfl ?_
        refine W.skip ?_
        refine normal_block ?_
        refine hK9 _ _ ?_
        clear hK9
        refine W.region ?_
        refine ops_run 1 (by kernel_rfl) ?_
        have h29 : -9223372036854775808 ≤ ((64 * (k : Int)) + 64) ∧ ((64 * (k : Int)) + 64) ≤ 9223372036854775807 := by omega
        refine ops_val (v := .int .i64 (IntKind.i64.wrap ((64 * (k : Int)) + 64))) (v' := .int .i64 ((64 * (k : Int)) + 64)) (by kernel_rfl) (congrArg (Value.int .i64) (wrap_i64 h29.1 h29.2)) ?_
        refine ops_run 1 (by kernel_rfl) ?_
        refine ops_done (by kernel_rfl) ?_
        have hs30 : St B w l0 w26 [blk cb (.cells [(.pointer (some ⟨mb, 0, none⟩))].toArray 22 (0, 0)), Y (k + 1), keepA w00] := hs28.front 2 (by simp)
        have hs31 : St B w l0 w26 [keepA w00, blk cb (.cells [(.pointer (some ⟨mb, 0, none⟩))].toArray 22 (0, 0)), Y (k + 1)] := hs30.front 2 (by simp)
        exact ⟨k + 1, ⟨slots_intro _ (by kernel_rfl), hs31, by omega⟩, by omega⟩
      ·
        have hs32 : St B w l0 w26 [Z, keepA w00, blk cb (.cells [(.pointer (some ⟨mb, 0, none⟩))].toArray 22 (0, 0))] := hs27
        refine ops_run 1 (by kernel_rfl) ?_
        refine ops_done (by kernel_rfl) ?_
        refine hK24 _ _ ?_
        clear hK24
        refine W.cond_true true (by kernel_rfl) rfl ?_
        refine W.ret (ret_block (ret_seq (ret_seq (ret_block ?_))))
        have hs33 : St B w l0 w26 [blk cb (.cells [(.pointer (some ⟨mb, 0, none⟩))].toArray 22 (0, 0)), Z, keepA w00] := hs32.front 2 (by simp)
        have hs34 : St B w l0 w26 [keepA w00, blk cb (.cells [(.pointer (some ⟨mb, 0, none⟩))].toArray 22 (0, 0)), Z] := hs33.front 2 (by simp)
        refine ret_of (.tuple #[]) (by kernel_rfl) ⟨_, ⟨rfl, .inr rfl⟩, hs34⟩
    ·
      have h22p : ¬ ((many - (64 * (k : Int))) < 64) := of_decide_eq_false h22
      refine W.skip ?_
      refine hK18 _ _ ?_
      clear hK18
      refine W.seq fun K35 hK35 => ?_
      refine W.region ?_
      refine ops_run 3 (by kernel_rfl) ?_
      have hw_ : (vget img l (at_ + ((64 * (k : Int)) / 64))) = mwordAt img l at_ many k := by exact mword_whole (by omega)
      refine ops_set 43 (v := .int .u64 (mwordAt img l at_ many k)) (Eq.trans (by kernel_rfl) (congrArg (Value.int .u64) hw_)) ?_
      have hs36 : St B w l0 w15 [Y k, keepA w00, blk cb (.cells [(.pointer (some ⟨mb, 0, none⟩))].toArray 22 (0, 0))] := hs17.front 2 (by simp)
      refine ops_yield (pre := [Y k]) (l := yl) hs36 (by kernel_rfl) (by kernel_rfl) (hy k (by omega) _) ?_
      rintro _ _ w37 (⟨rfl, rfl⟩ | ⟨rfl, rfl⟩) hs38
      ·
        have hs39 : St B w l0 w37 [Y (k + 1), keepA w00, blk cb (.cells [(.pointer (some ⟨mb, 0, none⟩))].toArray 22 (0, 0))] := hs38
        refine ops_run 1 (by kernel_rfl) ?_
        refine ops_done (by kernel_rfl) ?_
        refine hK35 _ _ ?_
        clear hK35
        refine W.cond_false false (by kernel_rfl) rfl ?_
        refine W.skip ?_
        refine normal_block ?_
        refine hK9 _ _ ?_
        clear hK9
        refine W.region ?_
        refine ops_run 1 (by kernel_rfl) ?_
        have h40 : -9223372036854775808 ≤ ((64 * (k : Int)) + 64) ∧ ((64 * (k : Int)) + 64) ≤ 9223372036854775807 := by omega
        refine ops_val (v := .int .i64 (IntKind.i64.wrap ((64 * (k : Int)) + 64))) (v' := .int .i64 ((64 * (k : Int)) + 64)) (by kernel_rfl) (congrArg (Value.int .i64) (wrap_i64 h40.1 h40.2)) ?_
        refine ops_run 1 (by kernel_rfl) ?_
        refine ops_done (by kernel_rfl) ?_
        have hs41 : St B w l0 w37 [blk cb (.cells [(.pointer (some ⟨mb, 0, none⟩))].toArray 22 (0, 0)), Y (k + 1), keepA w00] := hs39.front 2 (by simp)
        have hs42 : St B w l0 w37 [keepA w00, blk cb (.cells [(.pointer (some ⟨mb, 0, none⟩))].toArray 22 (0, 0)), Y (k + 1)] := hs41.front 2 (by simp)
        exact ⟨k + 1, ⟨slots_intro _ (by kernel_rfl), hs42, by omega⟩, by omega⟩
      ·
        have hs43 : St B w l0 w37 [Z, keepA w00, blk cb (.cells [(.pointer (some ⟨mb, 0, none⟩))].toArray 22 (0, 0))] := hs38
        refine ops_run 1 (by kernel_rfl) ?_
        refine ops_done (by kernel_rfl) ?_
        refine hK35 _ _ ?_
        clear hK35
        refine W.cond_true true (by kernel_rfl) rfl ?_
        refine W.ret (ret_block (ret_seq (ret_seq (ret_block ?_))))
        have hs44 : St B w l0 w37 [blk cb (.cells [(.pointer (some ⟨mb, 0, none⟩))].toArray 22 (0, 0)), Z, keepA w00] := hs43.front 2 (by simp)
        have hs45 : St B w l0 w37 [keepA w00, blk cb (.cells [(.pointer (some ⟨mb, 0, none⟩))].toArray 22 (0, 0)), Z] := hs44.front 2 (by simp)
        refine ret_of (.tuple #[]) (by kernel_rfl) ⟨_, ⟨rfl, .inr rfl⟩, hs45⟩
  ·
    have h8p : ¬ ((64 * (k : Int)) < many) := of_decide_eq_false h8
    refine W.exit (exit_seq (exit_seq (exit_here ?_)))
    have hn_ : k = nWords many := by unfold nWords; omega
    subst hn_
    refine ret_ofN (.tuple #[]) (by kernel_rfl) ⟨_, ⟨rfl, .inl rfl⟩, hs5⟩

end Go.Proofs.YthimamnblklkbaaDoor
