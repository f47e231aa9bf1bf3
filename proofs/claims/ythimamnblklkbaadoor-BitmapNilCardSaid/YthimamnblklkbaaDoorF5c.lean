/- Contracts of the functions of view, by a program. -/
import Derived.Test.YthimamnblklkbaaDoorF5b
namespace Go.Proofs.YthimamnblklkbaaDoor
open Go Go.RowKit
set_option linter.unusedSimpArgs false
set_option linter.unusedVariables false

set_option maxRecDepth 20000 in
theorem badf_spec {at_ x_ : Int} {bw n c : Nat} {a : Option Addr} (B : Nat) (w : World) (hb : w.heap[bw]? = some (.cells [.slice a n c].toArray 36 (0, 0))) : Spec Tryd.prog 142 #[(.agg #[(.int .i64 at_), (.int .u64 x_)]), (.pointer (some ⟨bw, 0, none⟩))] B w [] (fun v H' => v = .bool (bad n (at_, x_)) ∧ H' = []) := by
  refine spec_Q Tryd.func142 rfl fun hs => ?_
  refine W.seq fun K1 hK1 => ?_
  refine W.region ?_
  refine ops_new (fun b => .pointer (some ⟨b, 0, none⟩)) (.cells [(.int .i64 at_), (.int .u64 x_)].toArray 177 (0, 0)) hs (by kernel_rfl) (fun b4 w2 hs3 => ?_)
  refine ops_run 1 (by kernel_rfl) ?_
  refine ops_done (by kernel_rfl) ?_
  refine hK1 _ _ ?_
  clear hK1
  refine W.seq fun K5 hK5 => ?_
  refine W.region ?_
  refine ops_run 1 (by kernel_rfl) ?_
  refine ops_R (runs_load (ad := ⟨b4, 0, none⟩) (v := (.int .i64 at_)) (by kernel_rfl) (hs3.cellAt 0 rfl rfl)) ?_
  refine ops_run 2 (by kernel_rfl) ?_
  rcases Bool.eq_false_or_eq_true (decide (at_ < 0)) with h6 | h6
  ·
    have h6p : at_ < 0 := of_decide_eq_true h6
    refine ops_set 7 (v := .bool true) (eq_bool_of (by kernel_rfl) h6) ?_
    refine ops_set 6 (v := .bool true) (eq_bool_of (by kernel_rfl) h6) ?_
    refine ops_run 7 (by kernel_rfl) ?_
    refine ops_done (by kernel_rfl) ?_
    refine hK5 _ _ ?_
    clear hK5
    refine W.ret ?_
    have hs7 : St B w [] w2 [] := St.take (H := []) hs3
    refine ret_of (.bool true) (by kernel_rfl) ⟨_, ⟨(congrArg Value.bool (decide_eq_true (by dsimp only; omega)).symm), rfl⟩, hs7⟩
  ·
    have h6p : ¬ (at_ < 0) := of_decide_eq_false h6
    refine ops_set 7 (v := .bool false) (eq_bool_of (by kernel_rfl) h6) ?_
    refine ops_set 6 (v := .bool false) (eq_bool_of (by kernel_rfl) h6) ?_
    refine ops_run 1 (by kernel_rfl) ?_
    refine ops_R (runs_load (ad := ⟨b4, 0, none⟩) (v := (.int .i64 at_)) (by kernel_rfl) (hs3.cellAt 0 rfl rfl)) ?_
    refine ops_R (runs_load (ad := ⟨bw, 0, none⟩) (v := (.slice a n c)) (by kernel_rfl) (cell_of_blk (hs3.old hb) rfl)) ?_
    refine ops_run 4 (by kernel_rfl) ?_
    refine ops_done (by kernel_rfl) ?_
    refine hK5 _ _ ?_
    clear hK5
    refine W.ret ?_
    have hs8 : St B w [] w2 [] := St.take (H := []) hs3
    refine ret_of (.bool (decide (at_ ≥ (n : Int)))) (by kernel_rfl) ⟨_, ⟨(congrArg Value.bool (decide_eq_decide.2 (by dsimp only; omega))), rfl⟩, hs8⟩

set_option maxRecDepth 20000 in
theorem indexf_spec {la : Option Addr} {lc : Nat} {l : List (Int × Int)} {bw n c : Nat} {a : Option Addr} (B : Nat) (w : World) (hl : CellsAt la (kWr.cells l) w) (hb : w.heap[bw]? = some (.cells [.slice a n c].toArray 36 (0, 0))) (hsz : l.length ≤ 9223372036854775806) : Spec Tryd.prog 153 #[(.slice la l.length lc), (.func (.func 142) #[] #[(.pointer (some ⟨bw, 0, none⟩))])] B w [] (fun v H' => ∃ r : Int, (0 ≤ r ↔ l.any (bad n) = true) ∧ v = .int .i64 r ∧ H' = []) := by
  refine spec_Q Tryd.func153 rfl fun hs => ?_
  refine W.seq fun K1 hK1 => ?_
  refine W.region ?_
  refine ops_run 1 (by kernel_rfl) ?_
  refine ops_done (by kernel_rfl) ?_
  refine hK1 _ _ ?_
  clear hK1
  refine W.seq fun K2 hK2 => ?_
  refine W.seq fun K3 hK3 => ?_
  refine W.region ?_
  refine ops_run 3 (by kernel_rfl) ?_
  refine ops_done (by kernel_rfl) ?_
  refine hK3 _ _ ?_
  clear hK3
  refine W.block ?_
  refine W.loop (G := Nat) (fun | k, s_, w_ => (∃ us, s_ = slots 19 [(0, (.slice la l.length lc)), (1, (.func (.func 142) #[] #[(.pointer (some ⟨bw, 0, none⟩))])), (7, (.int .i64 (l.length : Int))), (8, (.int .i64 (k : Int)))] us) ∧ St B w [] w_ [] ∧ (k ≤ l.length) ∧ (∀ j, j < k → bad n (l.getD j (0, 0)) = false)) (fun k => l.length - k) 0 ⟨slots_intro _ (by kernel_rfl), hs, Nat.zero_le _, fun j hj => absurd hj (by omega)⟩ ?_
  rintro k _ w4 ⟨⟨us, rfl⟩, hs5, hk_, hk1⟩
  refine W.seq fun K6 hK6 => ?_
  refine W.region ?_
  refine ops_run 1 (by kernel_rfl) ?_
  refine ops_done (by kernel_rfl) ?_
  refine hK6 _ _ ?_
  clear hK6
  refine W.seq fun K7 hK7 => ?_
  refine W.cond (decide ((k : Int) < (l.length : Int))) (by kernel_rfl) (fun h8 => ?_) (fun h8 => ?_)
  ·
    have h8p : (k : Int) < (l.length : Int) := of_decide_eq_true h8
    refine W.skip ?_
    refine hK7 _ _ ?_
    clear hK7
    refine W.seq fun K9 hK9 => ?_
    refine W.block ?_
    refine W.seq fun K10 hK10 => ?_
    refine W.region ?_
    refine ops_run 2 (by kernel_rfl) ?_
    refine ops_done (by kernel_rfl) ?_
    refine hK10 _ _ ?_
    clear hK10
    refine W.seq fun K11 hK11 => ?_
    refine W.region ?_
    refine ops_run 3 (by kernel_rfl) ?_
    have hk12 : k < l.length := by omega
    refine ops_R (runs_index (a := la) (n := l.length) (z := (k : Int)) (size := 2) k rfl hk12 (kWr.addr (hs5.oldCells hl) hk12) (by kernel_rfl)) ?_
    refine ops_R (runs_loadAgg (cs := [(.int .i64 ((l.getD k (0, 0)).1)), (.int .u64 ((l.getD k (0, 0)).2))]) (by kernel_rfl) (kWr.all (hs5.oldCells hl) hk12 (0, 0) 0 rfl)) ?_
    refine ops_call (pre := []) hs5 (by kernel_rfl) (badf_spec (at_ := (l.getD k (0, 0)).1) (x_ := (l.getD k (0, 0)).2) (hb := (hs5.old hb)) B _) ?_
    rintro _ _ w13 ⟨rfl, rfl⟩ hs14
    have hs15 : St B w [] w13 [] := hs14
    refine ops_done (by kernel_rfl) ?_
    refine hK11 _ _ ?_
    clear hK11
    refine W.cond (bad n ((l.getD k (0, 0)).1, (l.getD k (0, 0)).2)) (by kernel_rfl) (fun h16 => ?_) (fun h16 => ?_)
    ·
      have h16p : (bad n ((l.getD k (0, 0)).1, (l.getD k (0, 0)).2)) = true := h16
      refine W.seq fun K17 hK17 => ?_
      refine W.region ?_
      refine ops_run 2 (by kernel_rfl) ?_
      refine ops_done (by kernel_rfl) ?_
      refine hK17 _ _ ?_
      clear hK17
      refine W.ret (ret_block (ret_seq (ret_seq (ret_block (ret_seq ?_)))))
      refine ret_of (.int .i64 (k : Int)) (by kernel_rfl) ⟨_, ⟨_, ⟨fun _ => any_of_get (k := k) (by omega) (by assumption), fun _ => by omega⟩, rfl, rfl⟩, hs15⟩
    ·
      have h16p : (bad n ((l.getD k (0, 0)).1, (l.getD k (0, 0)).2)) = false := h16
      refine W.skip ?_
      refine normal_block ?_
      refine hK9 _ _ ?_
      clear hK9
      refine W.region ?_
      refine ops_val (v := .int .i64 (IntKind.i64.wrap ((k : Int) + 1))) (v' := .int .i64 ((k + 1 : Nat) : Int)) (by kernel_rfl) (congrArg (Value.int .i64) (wrap_i64 (by omega) (by omega))) ?_
      refine ops_run 1 (by kernel_rfl) ?_
      refine ops_done (by kernel_rfl) ?_
      have hk2 : ∀ j, j < k + 1 → bad n (l.getD j (0, 0)) = false := fun j hj => (Nat.lt_succ_iff_lt_or_eq.1 hj).elim (hk1 j) (fun e => by subst e; assumption)
      exact ⟨k + 1, ⟨slots_intro _ (by kernel_rfl), hs15, by omega, hk2⟩, by first | omega | (dsimp only; omega)⟩
  ·
    have h8p : ¬ ((k : Int) < (l.length : Int)) := of_decide_eq_false h8
    refine W.exit (exit_seq (exit_seq (exit_here ?_)))
    refine hK2 _ _ ?_
    clear hK2
    refine W.seq fun K18 hK18 => ?_
    refine W.region ?_
    refine ops_run 1 (by kernel_rfl) ?_
    refine ops_done (by kernel_rfl) ?_
    refine hK18 _ _ ?_
    clear hK18
    refine W.ret ?_
    refine ret_of (.int .i64 (-1)) (by kernel_rfl) ⟨_, ⟨_, ⟨fun h => absurd h (by decide), fun h => absurd (any_none (fun j hj => hk1 j (by omega))) (by rw [h]; decide)⟩, rfl, rfl⟩, hs5⟩

set_option maxRecDepth 20000 in
theorem contains_spec {la : Option Addr} {lc : Nat} {l : List (Int × Int)} {bw n c : Nat} {a : Option Addr} (B : Nat) (w : World) (hl : CellsAt la (kWr.cells l) w) (hb : w.heap[bw]? = some (.cells [.slice a n c].toArray 36 (0, 0))) (hsz : l.length ≤ 9223372036854775806) : Spec Tryd.prog 141 #[(.slice la l.length lc), (.func (.func 142) #[] #[(.pointer (some ⟨bw, 0, none⟩))])] B w [] (fun v H' => v = .bool (l.any (bad n)) ∧ H' = []) := by
  refine spec_Q Tryd.func141 rfl fun hs => ?_
  refine W.seq fun K1 hK1 => ?_
  refine W.region ?_
  refine ops_run 1 (by kernel_rfl) ?_
  refine ops_done (by kernel_rfl) ?_
  refine hK1 _ _ ?_
  clear hK1
  refine W.seq fun K2 hK2 => ?_
  refine W.region ?_
  refine ops_run 2 (by kernel_rfl) ?_
  refine ops_call (pre := []) hs (by kernel_rfl) (indexf_spec (lc := lc) (hsz := hsz) (hl := (hs.oldCells hl)) (hb := (hs.old hb)) B _) ?_
  rintro _ _ w5 ⟨r3, hr4, rfl, rfl⟩ hs6
  have hs7 : St B w [] w5 [] := hs6
  refine ops_run 2 (by kernel_rfl) ?_
  refine ops_done (by kernel_rfl) ?_
  refine hK2 _ _ ?_
  clear hK2
  refine W.ret ?_
  refine ret_of (.bool (decide (r3 ≥ 0))) (by kernel_rfl) ⟨_, ⟨congrArg Value.bool (by rw [Bool.eq_iff_iff, decide_eq_true_eq]; exact hr4), rfl⟩, hs7⟩

end Go.Proofs.YthimamnblklkbaaDoor
