/- Contracts of the functions of view and its reference, by a program. -/
import Derived.Test.YthimamnblklkbaaDoorF5d
namespace Go.Proofs.YthimamnblklkbaaDoor
open Go Go.RowKit
set_option linter.unusedSimpArgs false
set_option linter.unusedVariables false

set_option maxRecDepth 20000 in
theorem same03_spec {xa ya : Option Addr} {n m xc yc : Nat} {xs ys : List Int} (B : Nat) (w : World) (hn : n = xs.length) (hm : m = ys.length) (hx : CellsAt xa (kU64.cells xs) w) (hy : CellsAt ya (kU64.cells ys) w) (hsz : n ≤ 9223372036854775806) : Spec Tryd.prog 78 #[(.slice xa n xc), (.slice ya m yc)] B w [] (fun v H' => v = .bool (decide (xs = ys)) ∧ H' = []) := by
  refine spec_Q Tryd.func78 rfl fun hs => ?_
  subst hn hm
  refine W.seq fun K1 hK1 => ?_
  refine W.region ?_
  refine ops_run 1 (by kernel_rfl) ?_
  refine ops_done (by kernel_rfl) ?_
  refine hK1 _ _ ?_
  clear hK1
  refine W.seq fun K2 hK2 => ?_
  refine W.seq fun K3 hK3 => ?_
  refine W.region ?_
  refine ops_run 5 (by kernel_rfl) ?_
  refine ops_done (by kernel_rfl) ?_
  refine hK3 _ _ ?_
  clear hK3
  refine W.cond (!decide ((xs.length : Int) = (ys.length : Int))) (by kernel_rfl) (fun h4 => ?_) (fun h4 => ?_)
  ·
    have h4p : ¬ ((xs.length : Int) = (ys.length : Int)) := of_decide_eq_false (bnot_true h4)
    refine W.seq fun K5 hK5 => ?_
    refine W.region ?_
    refine ops_run 1 (by kernel_rfl) ?_
    refine ops_done (by kernel_rfl) ?_
    refine hK5 _ _ ?_
    clear hK5
    refine W.ret (ret_seq ?_)
    refine ret_of (.bool false) (by kernel_rfl) ⟨_, ⟨congrArg Value.bool (decide_eq_false (fun e_ => by subst e_; first | omega | (exact (by assumption) rfl) | (simp_all))).symm, rfl⟩, hs⟩
  ·
    have h4p : (xs.length : Int) = (ys.length : Int) := of_decide_eq_true (bnot_false h4)
    refine W.skip ?_
    refine hK2 _ _ ?_
    clear hK2
    refine W.seq fun K6 hK6 => ?_
    refine W.seq fun K7 hK7 => ?_
    refine W.region ?_
    refine ops_run 1 (by kernel_rfl) ?_
    refine ops_done (by kernel_rfl) ?_
    refine hK7 _ _ ?_
    clear hK7
    refine W.block ?_
    refine W.loop (G := Nat) (fun | k, s_, w_ => (∃ us, s_ = slots 26 [(0, (.slice xa xs.length xc)), (1, (.slice ya ys.length yc)), (5, (.int .i64 (k : Int)))] us) ∧ St B w [] w_ [] ∧ (k ≤ xs.length) ∧ (∀ j, j < k → xs.getD j 0 = ys.getD j 0)) (fun k => xs.length - k) 0 ⟨slots_intro _ (by kernel_rfl), hs, Nat.zero_le _, fun j hj => absurd hj (by omega)⟩ ?_
    rintro k _ w8 ⟨⟨us, rfl⟩, hs9, hk_, hk1⟩
    refine W.seq fun K10 hK10 => ?_
    refine W.seq fun K11 hK11 => ?_
    refine W.region ?_
    refine ops_run 4 (by kernel_rfl) ?_
    refine ops_done (by kernel_rfl) ?_
    refine hK11 _ _ ?_
    clear hK11
    refine W.cond (decide ((k : Int) < (xs.length : Int))) (by kernel_rfl) (fun h12 => ?_) (fun h12 => ?_)
    ·
      have h12p : (k : Int) < (xs.length : Int) := of_decide_eq_true h12
      refine W.skip ?_
      refine hK10 _ _ ?_
      clear hK10
      refine W.seq fun K13 hK13 => ?_
      refine W.block ?_
      refine W.seq fun K14 hK14 => ?_
      have hs15 := hs9.drew
      refine W.regionD [(0, 0), (0, 0), (3, 3), (4, 4), (0, 0), (0, 0), (48, 48), (64, 64), (136, 136)] (fun w_ => St B w [] w_ []) (by kernel_rfl) hs15 ?_
      refine any_val (v := (.slice xa xs.length xc)) (v' := (.slice xa xs.length xc)) 0 (by kernel_rfl) (fun _ => by kernel_rfl) rfl hs15 ?_
      refine any_val (v := (.int .i64 (k : Int))) (v' := (.int .i64 (k : Int))) 1 (by kernel_rfl) (fun _ => by kernel_rfl) rfl hs15 ?_
      have hk16 : k < xs.length := by omega
      refine any_R 2 (by kernel_rfl) (fun _ hS_ => runs_index (a := xa) (n := xs.length) (z := (k : Int)) (size := 1) k rfl hk16 (kU64.addr (hs15.oldCells hx) hk16) (by kernel_rfl)) hs15 ?_
      refine any_R 3 (by kernel_rfl) (fun _ hS_ => runs_load (ad := ((adr xa (k * 1)).add 0)) (v := (.int .u64 (xs.getD k 0))) (by kernel_rfl) (kU64.at (hS_.oldCells hx) hk16 0 0 rfl)) hs15 ?_
      refine any_val (v := (.slice ya ys.length yc)) (v' := (.slice ya ys.length yc)) 4 (by kernel_rfl) (fun _ => by kernel_rfl) rfl hs15 ?_
      refine any_val (v := (.int .i64 (k : Int))) (v' := (.int .i64 (k : Int))) 5 (by kernel_rfl) (fun _ => by kernel_rfl) rfl hs15 ?_
      have hk17 : k < ys.length := by omega
      refine any_R 6 (by kernel_rfl) (fun _ hS_ => runs_index (a := ya) (n := ys.length) (z := (k : Int)) (size := 1) k rfl hk17 (kU64.addr (hs15.oldCells hy) hk17) (by kernel_rfl)) hs15 ?_
      refine any_R 7 (by kernel_rfl) (fun _ hS_ => runs_load (ad := ((adr ya (k * 1)).add 0)) (v := (.int .u64 (ys.getD k 0))) (by kernel_rfl) (kU64.at (hS_.oldCells hy) hk17 0 0 rfl)) hs15 ?_
      refine any_val (v := (.bool (!decide ((xs.getD k 0) = (ys.getD k 0))))) (v' := (.bool (!decide ((xs.getD k 0) = (ys.getD k 0))))) 8 (by kernel_rfl) (fun _ => by kernel_rfl) rfl hs15 ?_
      refine any_done (by kernel_rfl) ?_
      refine hK14 _ _ ?_
      clear hK14
      refine W.cond (!decide ((xs.getD k 0) = (ys.getD k 0))) (by kernel_rfl) (fun h18 => ?_) (fun h18 => ?_)
      ·
        have h18p : ¬ ((xs.getD k 0) = (ys.getD k 0)) := of_decide_eq_false (bnot_true h18)
        refine W.seq fun K19 hK19 => ?_
        refine W.region ?_
        refine ops_run 1 (by kernel_rfl) ?_
        refine ops_done (by kernel_rfl) ?_
        refine hK19 _ _ ?_
        clear hK19
        refine W.ret (ret_block (ret_seq (ret_seq (ret_block (ret_seq ?_)))))
        refine ret_of (.bool false) (by kernel_rfl) ⟨_, ⟨congrArg Value.bool (decide_eq_false (fun e_ => by subst e_; first | omega | (exact (by assumption) rfl) | (simp_all))).symm, rfl⟩, hs15⟩
      ·
        have h18p : (xs.getD k 0) = (ys.getD k 0) := of_decide_eq_true (bnot_false h18)
        refine W.skip ?_
        refine normal_block ?_
        refine hK13 _ _ ?_
        clear hK13
        refine W.region ?_
        refine ops_run 1 (by kernel_rfl) ?_
        refine ops_val (v := .int .i64 (IntKind.i64.wrap ((k : Int) + 1))) (v' := .int .i64 ((k + 1 : Nat) : Int)) (by kernel_rfl) (congrArg (Value.int .i64) (wrap_i64 (by omega) (by omega))) ?_
        refine ops_run 1 (by kernel_rfl) ?_
        refine ops_done (by kernel_rfl) ?_
        have hk2 : ∀ j, j < k + 1 → xs.getD j 0 = ys.getD j 0 := fun j hj => (Nat.lt_succ_iff_lt_or_eq.1 hj).elim (hk1 j) (fun e => by subst e; first | assumption | (refine Prod.ext ?_ ?_ <;> simp_all))
        exact ⟨k + 1, ⟨slots_intro _ (by kernel_rfl), hs15, by omega, hk2⟩, by first | omega | (dsimp only; omega)⟩
    ·
      have h12p : ¬ ((k : Int) < (xs.length : Int)) := of_decide_eq_false h12
      refine W.exit (exit_seq (exit_seq (exit_here ?_)))
      refine hK6 _ _ ?_
      clear hK6
      refine W.seq fun K20 hK20 => ?_
      refine W.region ?_
      refine ops_run 1 (by kernel_rfl) ?_
      refine ops_done (by kernel_rfl) ?_
      refine hK20 _ _ ?_
      clear hK20
      refine W.ret ?_
      refine ret_of (.bool true) (by kernel_rfl) ⟨_, ⟨congrArg Value.bool (decide_eq_true (eq_of_getD 0 (by omega) (fun j hj => hk1 j (by omega)))).symm, rfl⟩, hs9⟩

set_option maxRecDepth 20000 in
theorem same05_spec {xa ya : Option Addr} {n m xc yc : Nat} {xs ys : List (Int × Int)} (B : Nat) (w : World) (hn : n = xs.length) (hm : m = ys.length) (hx : CellsAt xa (kWr.cells xs) w) (hy : CellsAt ya (kWr.cells ys) w) (hsz : n ≤ 9223372036854775806) : Spec Tryd.prog 50 #[(.slice xa n xc), (.slice ya m yc)] B w [] (fun v H' => v = .bool (decide (xs = ys)) ∧ H' = []) := by
  refine spec_Q Tryd.func50 rfl fun hs => ?_
  subst hn hm
  refine W.seq fun K1 hK1 => ?_
  refine W.region ?_
  refine ops_run 1 (by kernel_rfl) ?_
  refine ops_done (by kernel_rfl) ?_
  refine hK1 _ _ ?_
  clear hK1
  refine W.seq fun K2 hK2 => ?_
  refine W.seq fun K3 hK3 => ?_
  refine W.region ?_
  refine ops_run 5 (by kernel_rfl) ?_
  refine ops_done (by kernel_rfl) ?_
  refine hK3 _ _ ?_
  clear hK3
  refine W.cond (!decide ((xs.length : Int) = (ys.length : Int))) (by kernel_rfl) (fun h4 => ?_) (fun h4 => ?_)
  ·
    have h4p : ¬ ((xs.length : Int) = (ys.length : Int)) := of_decide_eq_false (bnot_true h4)
    refine W.seq fun K5 hK5 => ?_
    refine W.region ?_
    refine ops_run 1 (by kernel_rfl) ?_
    refine ops_done (by kernel_rfl) ?_
    refine hK5 _ _ ?_
    clear hK5
    refine W.ret (ret_seq ?_)
    refine ret_of (.bool false) (by kernel_rfl) ⟨_, ⟨congrArg Value.bool (decide_eq_false (fun e_ => by subst e_; first | omega | (exact (by assumption) rfl) | (simp_all))).symm, rfl⟩, hs⟩
  ·
    have h4p : (xs.length : Int) = (ys.length : Int) := of_decide_eq_true (bnot_false h4)
    refine W.skip ?_
    refine hK2 _ _ ?_
    clear hK2
    refine W.seq fun K6 hK6 => ?_
    refine W.seq fun K7 hK7 => ?_
    refine W.region ?_
    refine ops_run 1 (by kernel_rfl) ?_
    refine ops_done (by kernel_rfl) ?_
    refine hK7 _ _ ?_
    clear hK7
    refine W.block ?_
    refine W.loop (G := Nat) (fun | k, s_, w_ => (∃ us, s_ = slots 26 [(0, (.slice xa xs.length xc)), (1, (.slice ya ys.length yc)), (5, (.int .i64 (k : Int)))] us) ∧ St B w [] w_ [] ∧ (k ≤ xs.length) ∧ (∀ j, j < k → xs.getD j (0, 0) = ys.getD j (0, 0))) (fun k => xs.length - k) 0 ⟨slots_intro _ (by kernel_rfl), hs, Nat.zero_le _, fun j hj => absurd hj (by omega)⟩ ?_
    rintro k _ w8 ⟨⟨us, rfl⟩, hs9, hk_, hk1⟩
    refine W.seq fun K10 hK10 => ?_
    refine W.seq fun K11 hK11 => ?_
    refine W.region ?_
    refine ops_run 4 (by kernel_rfl) ?_
    refine ops_done (by kernel_rfl) ?_
    refine hK11 _ _ ?_
    clear hK11
    refine W.cond (decide ((k : Int) < (xs.length : Int))) (by kernel_rfl) (fun h12 => ?_) (fun h12 => ?_)
    ·
      have h12p : (k : Int) < (xs.length : Int) := of_decide_eq_true h12
      refine W.skip ?_
      refine hK10 _ _ ?_
      clear hK10
      refine W.seq fun K13 hK13 => ?_
      refine W.block ?_
      refine W.seq fun K14 hK14 => ?_
      have hs15 := hs9.drew
      refine W.regionD [(0, 0), (0, 0), (3, 3), (4, 4), (0, 0), (0, 0), (48, 48), (64, 64), (136, 136)] (fun w_ => St B w [] w_ []) (by kernel_rfl) hs15 ?_
      refine any_val (v := (.slice xa xs.length xc)) (v' := (.slice xa xs.length xc)) 0 (by kernel_rfl) (fun _ => by kernel_rfl) rfl hs15 ?_
      refine any_val (v := (.int .i64 (k : Int))) (v' := (.int .i64 (k : Int))) 1 (by kernel_rfl) (fun _ => by kernel_rfl) rfl hs15 ?_
      have hk16 : k < xs.length := by omega
      refine any_R 2 (by kernel_rfl) (fun _ hS_ => runs_index (a := xa) (n := xs.length) (z := (k : Int)) (size := 2) k rfl hk16 (kWr.addr (hs15.oldCells hx) hk16) (by kernel_rfl)) hs15 ?_
      refine any_R 3 (by kernel_rfl) (fun _ hS_ => runs_loadAgg (cs := [(.int .i64 ((xs.getD k (0, 0)).1)), (.int .u64 ((xs.getD k (0, 0)).2))]) (by kernel_rfl) (kWr.all (hS_.oldCells hx) hk16 (0, 0) 0 rfl)) hs15 ?_
      refine any_val (v := (.slice ya ys.length yc)) (v' := (.slice ya ys.length yc)) 4 (by kernel_rfl) (fun _ => by kernel_rfl) rfl hs15 ?_
      refine any_val (v := (.int .i64 (k : Int))) (v' := (.int .i64 (k : Int))) 5 (by kernel_rfl) (fun _ => by kernel_rfl) rfl hs15 ?_
      have hk17 : k < ys.length := by omega
      refine any_R 6 (by kernel_rfl) (fun _ hS_ => runs_index (a := ya) (n := ys.length) (z := (k : Int)) (size := 2) k rfl hk17 (kWr.addr (hs15.oldCells hy) hk17) (by kernel_rfl)) hs15 ?_
      refine any_R 7 (by kernel_rfl) (fun _ hS_ => runs_loadAgg (cs := [(.int .i64 ((ys.getD k (0, 0)).1)), (.int .u64 ((ys.getD k (0, 0)).2))]) (by kernel_rfl) (kWr.all (hS_.oldCells hy) hk17 (0, 0) 0 rfl)) hs15 ?_
      refine any_R (v := (.bool (!((decide ((xs.getD k (0, 0)).1 = (ys.getD k (0, 0)).1)) && ((decide ((xs.getD k (0, 0)).2 = (ys.getD k (0, 0)).2)) && true))))) 8 (by kernel_rfl) (fun _ hS_ => runs_eq (b := !((decide ((xs.getD k (0, 0)).1 = (ys.getD k (0, 0)).1)) && ((decide ((xs.getD k (0, 0)).2 = (ys.getD k (0, 0)).2)) && true))) (by kernel_rfl)) hs15 ?_
      refine any_done (by kernel_rfl) ?_
      refine hK14 _ _ ?_
      clear hK14
      refine W.cond (!((decide ((xs.getD k (0, 0)).1 = (ys.getD k (0, 0)).1)) && ((decide ((xs.getD k (0, 0)).2 = (ys.getD k (0, 0)).2)) && true))) (by kernel_rfl) (fun h18 => ?_) (fun h18 => ?_)
      ·
        have h18p : ¬ ((xs.getD k (0, 0)).1 = (ys.getD k (0, 0)).1 ∧ (xs.getD k (0, 0)).2 = (ys.getD k (0, 0)).2) := by simpa using (bnot_true h18)
        refine W.seq fun K19 hK19 => ?_
        refine W.region ?_
        refine ops_run 1 (by kernel_rfl) ?_
        refine ops_done (by kernel_rfl) ?_
        refine hK19 _ _ ?_
        clear hK19
        refine W.ret (ret_block (ret_seq (ret_seq (ret_block (ret_seq ?_)))))
        refine ret_of (.bool false) (by kernel_rfl) ⟨_, ⟨congrArg Value.bool (decide_eq_false (fun e_ => by subst e_; first | omega | (exact (by assumption) rfl) | (simp_all))).symm, rfl⟩, hs15⟩
      ·
        have h18p : (xs.getD k (0, 0)).1 = (ys.getD k (0, 0)).1 ∧ (xs.getD k (0, 0)).2 = (ys.getD k (0, 0)).2 := by simpa using (bnot_false h18)
        refine W.skip ?_
        refine normal_block ?_
        refine hK13 _ _ ?_
        clear hK13
        refine W.region ?_
        refine ops_run 1 (by kernel_rfl) ?_
        refine ops_val (v := .int .i64 (IntKind.i64.wrap ((k : Int) + 1))) (v' := .int .i64 ((k + 1 : Nat) : Int)) (by kernel_rfl) (congrArg (Value.int .i64) (wrap_i64 (by omega) (by omega))) ?_
        refine ops_run 1 (by kernel_rfl) ?_
        refine ops_done (by kernel_rfl) ?_
        have hk2 : ∀ j, j < k + 1 → xs.getD j (0, 0) = ys.getD j (0, 0) := fun j hj => (Nat.lt_succ_iff_lt_or_eq.1 hj).elim (hk1 j) (fun e => by subst e; first | assumption | (refine Prod.ext ?_ ?_ <;> simp_all))
        exact ⟨k + 1, ⟨slots_intro _ (by kernel_rfl), hs15, by omega, hk2⟩, by first | omega | (dsimp only; omega)⟩
    ·
      have h12p : ¬ ((k : Int) < (xs.length : Int)) := of_decide_eq_false h12
      refine W.exit (exit_seq (exit_seq (exit_here ?_)))
      refine hK6 _ _ ?_
      clear hK6
      refine W.seq fun K20 hK20 => ?_
      refine W.region ?_
      refine ops_run 1 (by kernel_rfl) ?_
      refine ops_done (by kernel_rfl) ?_
      refine hK20 _ _ ?_
      clear hK20
      refine W.ret ?_
      refine ret_of (.bool true) (by kernel_rfl) ⟨_, ⟨congrArg Value.bool (decide_eq_true (eq_of_getD (0, 0) (by omega) (fun j hj => hk1 j (by omega)))).symm, rfl⟩, hs9⟩

set_option maxRecDepth 20000 in
theorem find_spec {p : Value} {img : List Int} {l : List (Int × Int)} {at_ : Int} (B : Nat) (w : World) (hv : RefAt p img l w) : Spec Tryd.prog 148 #[p, (.int .i64 at_)] B w [] (fun v H' => ∃ r : Int, FindR l at_ r ∧ v = .int .i64 r ∧ H' = []) := by
  refine spec_Q Tryd.func148 rfl fun hs => ?_
  have hv0 := hv
  obtain ⟨x, rfl, hok, hb, hi, ho, hcap⟩ := hv
  have hroom := hok.many
  have hroom2 := hok.size
  refine W.seq fun K1 hK1 => ?_
  refine W.region ?_
  refine ops_run 1 (by kernel_rfl) ?_
  refine ops_done (by kernel_rfl) ?_
  refine hK1 _ _ ?_
  clear hK1
  refine W.seq fun K2 hK2 => ?_
  refine W.seq fun K3 hK3 => ?_
  refine W.region ?_
  refine ops_run 1 (by kernel_rfl) ?_
  refine ops_done (by kernel_rfl) ?_
  refine hK3 _ _ ?_
  clear hK3
  refine W.block ?_
  refine W.loop (G := Nat) (fun | k, s_, w_ => (∃ us, s_ = slots 26 [(0, (.pointer (some ⟨x.b, 0, none⟩))), (1, (.int .i64 at_)), (5, (.int .i64 (k : Int)))] us) ∧ St B w [] w_ [] ∧ (k ≤ l.length) ∧ (∀ j, j < k → ¬ (l.getD j (0, 0)).1 = at_)) (fun k => l.length - k) 0 ⟨slots_intro _ (by kernel_rfl), hs, Nat.zero_le _, fun j hj => absurd hj (by omega)⟩ ?_
  rintro k _ w4 ⟨⟨us, rfl⟩, hs5, hk_, hk1⟩
  refine W.seq fun K6 hK6 => ?_
  refine W.seq fun K7 hK7 => ?_
  refine W.region ?_
  refine ops_run 4 (by kernel_rfl) ?_
  refine ops_R (runs_load (ad := ⟨x.b, 1, none⟩) (v := (.slice x.la l.length x.lc)) (by kernel_rfl) (cell_of_blk (hs5.old hb) rfl)) ?_
  refine ops_run 2 (by kernel_rfl) ?_
  refine ops_done (by kernel_rfl) ?_
  refine hK7 _ _ ?_
  clear hK7
  refine W.cond (decide ((k : Int) < (l.length : Int))) (by kernel_rfl) (fun h8 => ?_) (fun h8 => ?_)
  ·
    have h8p : (k : Int) < (l.length : Int) := of_decide_eq_true h8
    refine W.skip ?_
    refine hK6 _ _ ?_
    clear hK6
    refine W.seq fun K9 hK9 => ?_
    refine W.block ?_
    refine W.seq fun K10 hK10 => ?_
    refine W.region ?_
    refine ops_run 3 (by kernel_rfl) ?_
    refine ops_R (runs_load (ad := ⟨x.b, 1, none⟩) (v := (.slice x.la l.length x.lc)) (by kernel_rfl) (cell_of_blk (hs5.old hb) rfl)) ?_
    refine ops_run 1 (by kernel_rfl) ?_
    have hk11 : k < l.length := by omega
    refine ops_R (runs_index (a := x.la) (n := l.length) (z := (k : Int)) (size := 2) k rfl hk11 (kWr.addr (hs5.oldCells ho) hk11) (by kernel_rfl)) ?_
    refine ops_run 1 (by kernel_rfl) ?_
    refine ops_R (runs_load (ad := ((adr x.la (k * 2)).add 0)) (v := (.int .i64 ((l.getD k (0, 0)).1))) (by kernel_rfl) (kWr.at (hs5.oldCells ho) hk11 (0, 0) 0 rfl)) ?_
    refine ops_run 2 (by kernel_rfl) ?_
    refine ops_done (by kernel_rfl) ?_
    refine hK10 _ _ ?_
    clear hK10
    refine W.cond (decide ((l.getD k (0, 0)).1 = at_)) (by kernel_rfl) (fun h12 => ?_) (fun h12 => ?_)
    ·
      have h12p : (l.getD k (0, 0)).1 = at_ := of_decide_eq_true h12
      refine W.seq fun K13 hK13 => ?_
      refine W.region ?_
      refine ops_run 2 (by kernel_rfl) ?_
      refine ops_done (by kernel_rfl) ?_
      refine hK13 _ _ ?_
      clear hK13
      refine W.ret (ret_block (ret_seq (ret_seq (ret_block (ret_seq ?_)))))
      refine ret_of (.int .i64 (k : Int)) (by kernel_rfl) ⟨_, ⟨_, .inr ⟨k, rfl, by omega, by assumption⟩, rfl, rfl⟩, hs5⟩
    ·
      have h12p : ¬ ((l.getD k (0, 0)).1 = at_) := of_decide_eq_false h12
      refine W.skip ?_
      refine normal_block ?_
      refine hK9 _ _ ?_
      clear hK9
      refine W.region ?_
      refine ops_run 1 (by kernel_rfl) ?_
      refine ops_val (v := .int .i64 (IntKind.i64.wrap ((k : Int) + 1))) (v' := .int .i64 ((k + 1 : Nat) : Int)) (by kernel_rfl) (congrArg (Value.int .i64) (wrap_i64 (by omega) (by omega))) ?_
      refine ops_run 1 (by kernel_rfl) ?_
      refine ops_done (by kernel_rfl) ?_
      have hk2 : ∀ j, j < k + 1 → ¬ (l.getD j (0, 0)).1 = at_ := fun j hj => (Nat.lt_succ_iff_lt_or_eq.1 hj).elim (hk1 j) (fun e => by subst e; assumption)
      exact ⟨k + 1, ⟨slots_intro _ (by kernel_rfl), hs5, by omega, hk2⟩, by first | omega | (dsimp only; omega)⟩
  ·
    have h8p : ¬ ((k : Int) < (l.length : Int)) := of_decide_eq_false h8
    refine W.exit (exit_seq (exit_seq (exit_here ?_)))
    refine hK2 _ _ ?_
    clear hK2
    refine W.seq fun K14 hK14 => ?_
    refine W.region ?_
    refine ops_run 1 (by kernel_rfl) ?_
    refine ops_done (by kernel_rfl) ?_
    refine hK14 _ _ ?_
    clear hK14
    refine W.ret ?_
    refine ret_of (.int .i64 (-1)) (by kernel_rfl) ⟨_, ⟨_, .inl ⟨rfl, find_none (fun j hj => hk1 j (by omega))⟩, rfl, rfl⟩, hs5⟩

set_option maxRecDepth 20000 in
theorem rget_spec {p : Value} {img : List Int} {l : List (Int × Int)} {at_ : Int} (B : Nat) (w : World) (hv : RefAt p img l w) : Spec Tryd.prog 109 #[p, (.int .i64 at_)] B w [] (fun v H' => v = .int .u64 (vget img l at_) ∧ H' = []) := by
  refine spec_Q Tryd.func109 rfl fun hs => ?_
  have hv0 := hv
  obtain ⟨x, rfl, hok, hb, hi, ho, hcap⟩ := hv
  have hroom := hok.many
  have hroom2 := hok.size
  refine W.seq fun K1 hK1 => ?_
  refine W.region ?_
  refine ops_run 1 (by kernel_rfl) ?_
  refine ops_done (by kernel_rfl) ?_
  refine hK1 _ _ ?_
  clear hK1
  refine W.seq fun K2 hK2 => ?_
  refine W.seq fun K3 hK3 => ?_
  refine W.region ?_
  refine ops_run 3 (by kernel_rfl) ?_
  rcases Bool.eq_false_or_eq_true (decide (at_ < 0)) with h4 | h4
  ·
    have h4p : at_ < 0 := of_decide_eq_true h4
    refine ops_set 8 (v := .bool true) (eq_bool_of (by kernel_rfl) h4) ?_
    refine ops_set 7 (v := .bool true) (eq_bool_of (by kernel_rfl) h4) ?_
    refine ops_run 8 (by kernel_rfl) ?_
    refine ops_done (by kernel_rfl) ?_
    refine hK3 _ _ ?_
    clear hK3
    refine W.cond_true true (by kernel_rfl) rfl ?_
    refine W.seq fun K5 hK5 => ?_
    refine W.region ?_
    refine ops_run 1 (by kernel_rfl) ?_
    refine ops_done (by kernel_rfl) ?_
    refine hK5 _ _ ?_
    clear hK5
    refine W.ret (ret_seq ?_)
    refine ret_of (.int .u64 0) (by kernel_rfl) ⟨_, ⟨congrArg (Value.int .u64) (by simp only [vget]; rw [if_neg (by omega)]), rfl⟩, hs⟩
  ·
    have h4p : ¬ (at_ < 0) := of_decide_eq_false h4
    refine ops_set 8 (v := .bool false) (eq_bool_of (by kernel_rfl) h4) ?_
    refine ops_set 7 (v := .bool false) (eq_bool_of (by kernel_rfl) h4) ?_
    refine ops_run 4 (by kernel_rfl) ?_
    refine ops_R (runs_load (ad := ⟨x.b, 0, none⟩) (v := (.slice x.ia img.length x.ic)) (by kernel_rfl) (cell_of_blk (hs.old hb) rfl)) ?_
    refine ops_run 3 (by kernel_rfl) ?_
    refine ops_done (by kernel_rfl) ?_
    refine hK3 _ _ ?_
    clear hK3
    refine W.cond (decide (at_ ≥ (img.length : Int))) (by kernel_rfl) (fun h6 => ?_) (fun h6 => ?_)
    ·
      have h6p : at_ ≥ (img.length : Int) := of_decide_eq_true h6
      refine W.seq fun K7 hK7 => ?_
      refine W.region ?_
      refine ops_run 1 (by kernel_rfl) ?_
      refine ops_done (by kernel_rfl) ?_
      refine hK7 _ _ ?_
      clear hK7
      refine W.ret (ret_seq ?_)
      refine ret_of (.int .u64 0) (by kernel_rfl) ⟨_, ⟨congrArg (Value.int .u64) (by simp only [vget]; rw [if_neg (by omega)]), rfl⟩, hs⟩
    ·
      have h6p : ¬ (at_ ≥ (img.length : Int)) := of_decide_eq_false h6
      refine W.skip ?_
      refine hK2 _ _ ?_
      clear hK2
      refine W.seq fun K8 hK8 => ?_
      refine W.region ?_
      refine ops_run 2 (by kernel_rfl) ?_
      refine ops_call (pre := []) hs (by kernel_rfl) (find_spec (p := (.pointer (some ⟨x.b, 0, none⟩))) (img := img) (l := l) (at_ := at_) (hv := (refAt_old hs hv0)) B _) ?_
      rintro _ _ w11 ⟨r9, hr10, rfl, rfl⟩ hs12
      have hs13 : St B w [] w11 [] := hs12
      refine ops_run 1 (by kernel_rfl) ?_
      refine ops_done (by kernel_rfl) ?_
      refine hK8 _ _ ?_
      clear hK8
      refine W.seq fun K14 hK14 => ?_
      refine W.seq fun K15 hK15 => ?_
      refine W.region ?_
      refine ops_run 2 (by kernel_rfl) ?_
      refine ops_done (by kernel_rfl) ?_
      refine hK15 _ _ ?_
      clear hK15
      refine W.cond (decide (r9 ≥ 0)) (by kernel_rfl) (fun h16 => ?_) (fun h16 => ?_)
      ·
        have h16p : r9 ≥ 0 := of_decide_eq_true h16
        have hlt := FindR.lt hr10 (by omega)
        refine W.seq fun K17 hK17 => ?_
        refine W.region ?_
        refine ops_run 3 (by kernel_rfl) ?_
        refine ops_R (runs_load (ad := ⟨x.b, 1, none⟩) (v := (.slice x.la l.length x.lc)) (by kernel_rfl) (cell_of_blk (hs13.old hb) rfl)) ?_
        refine ops_run 1 (by kernel_rfl) ?_
        have hk18 : r9.toNat < l.length := by omega
        refine ops_R (runs_index (a := x.la) (n := l.length) (z := r9) (size := 2) r9.toNat (by omega) hk18 (kWr.addr (hs13.oldCells ho) hk18) (by kernel_rfl)) ?_
        refine ops_run 1 (by kernel_rfl) ?_
        refine ops_R (runs_load (ad := ((adr x.la (r9.toNat * 2)).add 1)) (v := (.int .u64 ((l.getD r9.toNat (0, 0)).2))) (by kernel_rfl) (kWr.at (hs13.oldCells ho) hk18 (0, 0) 1 rfl)) ?_
        refine ops_run 1 (by kernel_rfl) ?_
        refine ops_done (by kernel_rfl) ?_
        refine hK17 _ _ ?_
        clear hK17
        refine W.ret (ret_seq ?_)
        refine ret_of (.int .u64 ((l.getD r9.toNat (0, 0)).2)) (by kernel_rfl) ⟨_, ⟨congrArg (Value.int .u64) (rget_some hok.keys hr10 (by omega) (by omega)), rfl⟩, hs13⟩
      ·
        have h16p : ¬ (r9 ≥ 0) := of_decide_eq_false h16
        refine W.skip ?_
        refine hK14 _ _ ?_
        clear hK14
        refine W.seq fun K19 hK19 => ?_
        refine W.region ?_
        refine ops_run 3 (by kernel_rfl) ?_
        refine ops_R (runs_load (ad := ⟨x.b, 0, none⟩) (v := (.slice x.ia img.length x.ic)) (by kernel_rfl) (cell_of_blk (hs13.old hb) rfl)) ?_
        refine ops_run 1 (by kernel_rfl) ?_
        have hk20 : at_.toNat < img.length := by omega
        refine ops_R (runs_index (a := x.ia) (n := img.length) (z := at_) (size := 1) at_.toNat (by omega) hk20 (kU64.addr (hs13.oldCells hi) hk20) (by kernel_rfl)) ?_
        refine ops_R (runs_load (ad := ((adr x.ia (at_.toNat * 1)).add 0)) (v := (.int .u64 (img.getD at_.toNat 0))) (by kernel_rfl) (kU64.at (hs13.oldCells hi) hk20 0 0 rfl)) ?_
        refine ops_run 1 (by kernel_rfl) ?_
        refine ops_done (by kernel_rfl) ?_
        refine hK19 _ _ ?_
        clear hK19
        refine W.ret ?_
        refine ret_of (.int .u64 (img.getD at_.toNat 0)) (by kernel_rfl) ⟨_, ⟨congrArg (Value.int .u64) (rget_none hr10 (by omega) (by omega)), rfl⟩, hs13⟩

end Go.Proofs.YthimamnblklkbaaDoor
