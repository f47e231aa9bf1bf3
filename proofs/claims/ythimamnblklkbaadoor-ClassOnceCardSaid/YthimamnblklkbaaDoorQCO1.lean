/- Texts, one behind the other: F5c, F5d, F5e, F5f, Lp, TdL, Sk, Lg, F6a, F6b, Pl, Sc, F0a, F6c, F0b, Kw, Rf, Ss, Bt. -/
import Derived.Test.YthimamnblklkbaaDoorRows
import Derived.ProofKit
import Derived.Deep.Slices
import Derived.Deep.Fields
import Derived.LaidMore
import Derived.OpenShut
import Derived.Stop.Joined
import Derived.Lib.LaidTab
import Derived.Laws.OwnMore
import Derived.Laws.BytesArg
import Derived.Laws.Entries
import Derived.Test.YthimamnblklkbaaDoorQCO0
set_option linter.unusedVariables false
set_option linter.unusedSimpArgs false
set_option maxRecDepth 20000
namespace Go.Proofs.YthimamnblklkbaaDoor
open Go Go.RowKit
set_option linter.unusedSimpArgs false
set_option linter.unusedVariables false

theorem badf_spec {at_ x_ : Int} {bw n c : Nat} {a : Option Addr} (B : Nat) (w : World) (hb : w.heap[bw]? = some (.cells [.slice a n c].toArray 36 (0, 0))) : Spec Tryd.prog 142 #[(.agg #[(.int .i64 at_), (.int .u64 x_)]), (.pointer (some ⟨bw, 0, none⟩))] B w [] (fun v H' => v = .bool (bad n (at_, x_)) ∧ H' = []) := by
 refine spec_Q Tryd.func142 rfl fun hs => ?_
 refine W.sr fun K1 hK1 => ?_
 refine zN [(.int .i64 at_), (.int .u64 x_)] 177 hs fun b4 w2 hs3 => ?_
 refine zE 1 (hK1 _ _ ?_)
 refine W.sr fun K5 hK5 => ?_
 refine zR 1 ?_
 refine zL ⟨b4, 0, none⟩ (.int .i64 at_) (hs3.cellAt 0 rfl rfl) ?_
 refine zR 2 ?_
 rcases Bool.eq_false_or_eq_true (decide (at_ < 0)) with h6 | h6
 ·
  have h6p := of_decide_eq_true h6
  refine zS 7 h6 ?_
  refine zS 6 h6 ?_
  refine zE 7 (hK5 _ _ ?_)
  refine W.ret ?_
  have hs7 := St.tk0 hs3
  refine ret_of (.bool true) (by kernel_rfl) ⟨_, ⟨(congrArg Value.bool (decide_eq_true (by dsimp only; omega)).symm), rfl⟩, hs7⟩
 ·
  have h6p := of_decide_eq_false h6
  refine zS 7 h6 ?_
  refine zS 6 h6 ?_
  refine zR 1 ?_
  refine zL ⟨b4, 0, none⟩ (.int .i64 at_) (hs3.cellAt 0 rfl rfl) ?_
  refine zL ⟨bw, 0, none⟩ (.slice a n c) (cell_of_blk (hs3.old hb) rfl) ?_
  refine zE 4 (hK5 _ _ ?_)
  refine W.ret ?_
  have hs8 := St.tk0 hs3
  refine ret_of (.bool (decide (at_ ≥ (n : Int)))) (by kernel_rfl) ⟨_, ⟨(congrArg Value.bool (decide_eq_decide.2 (by dsimp only; omega))), rfl⟩, hs8⟩

theorem indexf_spec {la : Option Addr} {lc : Nat} {l : List (Int × Int)} {bw n c : Nat} {a : Option Addr} (B : Nat) (w : World) (hl : CellsAt la (kWr.cells l) w) (hb : w.heap[bw]? = some (.cells [.slice a n c].toArray 36 (0, 0))) (hsz : l.length ≤ 9223372036854775806) : Spec Tryd.prog 153 #[(.slice la l.length lc), (.func (.func 142) #[] #[(.pointer (some ⟨bw, 0, none⟩))])] B w [] (fun v H' => ∃ r : Int, (0 ≤ r ↔ l.any (bad n) = true) ∧ v = .int .i64 r ∧ H' = []) := by
 refine spec_Q Tryd.func153 rfl fun hs => ?_
 refine W.sr fun K1 hK1 => ?_
 refine zE 1 (hK1 _ _ ?_)
 refine W.seq fun K2 hK2 => ?_
 refine W.sr fun K3 hK3 => ?_
 refine zE 3 (hK3 _ _ ?_)
 refine W.block ?_
 refine W.loop (G := Nat) (fun | k, s_, w_ => (∃ us, s_ = slots 19 [(0, (.slice la l.length lc)), (1, (.func (.func 142) #[] #[(.pointer (some ⟨bw, 0, none⟩))])), (7, (.int .i64 (l.length : Int))), (8, (.int .i64 (k : Int)))] us) ∧ St B w [] w_ [] ∧ (k ≤ l.length) ∧ (∀ j, j < k → bad n (l.getD j (0, 0)) = false)) (fun k => l.length - k) 0 ⟨slots_intro _ (by kernel_rfl), hs, Nat.zero_le _, fun j hj => absurd hj (by omega)⟩ ?_
 rintro k _ w4 ⟨⟨us, rfl⟩, hs5, hk_, hk1⟩
 refine W.sr fun K6 hK6 => ?_
 refine zE 1 (hK6 _ _ ?_)
 refine W.seq fun K7 hK7 => ?_
 refine W.cond (decide ((k : Int) < (l.length : Int))) (by kernel_rfl) (fun h8 => ?_) (fun h8 => ?_)
 ·
  have h8p := of_decide_eq_true h8
  refine W.skip ?_
  refine hK7 _ _ ?_
  refine W.seq fun K9 hK9 => ?_
  refine W.block ?_
  refine W.sr fun K10 hK10 => ?_
  refine zE 2 (hK10 _ _ ?_)
  refine W.sr fun K11 hK11 => ?_
  refine zR 3 ?_
  have hk12 : k < l.length := by omega
  refine ops_R (runs_index (a := la) (n := l.length) (z := (k : Int)) (size := 2) k rfl hk12 (kWr.addr (hs5.oldCells hl) hk12) (by kernel_rfl)) ?_
  refine ops_R (runs_loadAgg (cs := [(.int .i64 ((l.getD k (0, 0)).1)), (.int .u64 ((l.getD k (0, 0)).2))]) (by kernel_rfl) (kWr.all (hs5.oldCells hl) hk12 (0, 0) 0 rfl)) ?_
  refine zC00 hs5 (badf_spec (at_ := (l.getD k (0, 0)).1) (x_ := (l.getD k (0, 0)).2) (hb := (hs5.old hb)) B _) fun w13 hs15 => ?_
  refine zD (hK11 _ _ ?_)
  refine W.cond (bad n ((l.getD k (0, 0)).1, (l.getD k (0, 0)).2)) (by kernel_rfl) (fun h16 => ?_) (fun h16 => ?_)
  ·
   have h16p : (bad n ((l.getD k (0, 0)).1, (l.getD k (0, 0)).2)) = true := h16
   refine W.sr fun K17 hK17 => ?_
   refine zE 2 (hK17 _ _ ?_)
   refine W.ret (ret_block (ret_seq (ret_seq (ret_block (ret_seq ?_)))))
   refine ret_of (.int .i64 (k : Int)) (by kernel_rfl) ⟨_, ⟨_, ⟨fun _ => any_of_get (k := k) (by omega) (by assumption), fun _ => by omega⟩, rfl, rfl⟩, hs15⟩
  ·
   have h16p : (bad n ((l.getD k (0, 0)).1, (l.getD k (0, 0)).2)) = false := h16
   refine W.skip ?_
   refine normal_block ?_
   refine hK9 _ _ ?_
   refine W.region ?_
   refine ops_val (v := .int .i64 (IntKind.i64.wrap ((k : Int) + 1))) (v' := .int .i64 ((k + 1 : Nat) : Int)) (by kernel_rfl) (congrArg (Value.int .i64) (wrap_i64 (by omega) (by omega))) ?_
   refine zE 1 ?_
   have hk2 : ∀ j, j < k + 1 → bad n (l.getD j (0, 0)) = false := fun j hj => (Nat.lt_succ_iff_lt_or_eq.1 hj).elim (hk1 j) (fun e => by subst e; assumption)
   exact ⟨k + 1, ⟨slots_intro _ (by kernel_rfl), hs15, by omega, hk2⟩, by first | omega | (dsimp only; omega)⟩
 ·
  have h8p := of_decide_eq_false h8
  refine W.exit (exit_seq (exit_seq (exit_here ?_)))
  refine hK2 _ _ ?_
  refine W.sr fun K18 hK18 => ?_
  refine zE 1 (hK18 _ _ ?_)
  refine W.ret ?_
  refine ret_of (.int .i64 (-1)) (by kernel_rfl) ⟨_, ⟨_, ⟨fun h => absurd h (by decide), fun h => absurd (any_none (fun j hj => hk1 j (by omega))) (by rw [h]; decide)⟩, rfl, rfl⟩, hs5⟩

theorem contains_spec {la : Option Addr} {lc : Nat} {l : List (Int × Int)} {bw n c : Nat} {a : Option Addr} (B : Nat) (w : World) (hl : CellsAt la (kWr.cells l) w) (hb : w.heap[bw]? = some (.cells [.slice a n c].toArray 36 (0, 0))) (hsz : l.length ≤ 9223372036854775806) : Spec Tryd.prog 141 #[(.slice la l.length lc), (.func (.func 142) #[] #[(.pointer (some ⟨bw, 0, none⟩))])] B w [] (fun v H' => v = .bool (l.any (bad n)) ∧ H' = []) := by
 refine spec_Q Tryd.func141 rfl fun hs => ?_
 refine W.sr fun K1 hK1 => ?_
 refine zE 1 (hK1 _ _ ?_)
 refine W.sr fun K2 hK2 => ?_
 refine zR 2 ?_
 refine ops_call0 hs (by kernel_rfl) (indexf_spec (lc := lc) (hsz := hsz) (hl := (hs.oldCells hl)) (hb := (hs.old hb)) B _) ?_
 rintro _ _ w5 ⟨r3, hr4, rfl, rfl⟩ hs6
 have hs7 := St.ap0 hs6
 refine zE 2 (hK2 _ _ ?_)
 refine W.ret ?_
 refine ret_of (.bool (decide (r3 ≥ 0))) (by kernel_rfl) ⟨_, ⟨congrArg Value.bool (by rw [Bool.eq_iff_iff, decide_eq_true_eq]; exact hr4), rfl⟩, hs7⟩

end Go.Proofs.YthimamnblklkbaaDoor

set_option maxRecDepth 20000
namespace Go.Proofs.YthimamnblklkbaaDoor
open Go Go.RowKit
set_option linter.unusedSimpArgs false
set_option linter.unusedVariables false

theorem apply_spec {wa la : Option Addr} {wc lc : Nat} {words : List Int} {l : List (Int × Int)} {A : Asn} (B : Nat) (w : World) (hA : ∀ {B : Nat} {w : World} {lf : List Nat}, A.P B w lf → CellsAt la (kWr.cells l) w) (hsz : l.length ≤ 9223372036854775806) : Spec Tryd.prog 99 #[(.slice wa words.length wc), (.slice la l.length lc)] B w [kU64.row wa wc words, A] (fun v H' => v = .int .i64 (vapply words l).1 ∧ H' = [kU64.row wa wc (vapply words l).2, A]) := by
 refine spec_W Tryd.func99 rfl fun l0 hs => ?_
 refine W.sr fun K1 hK1 => ?_
 refine zN [(.slice wa words.length wc)] 36 hs fun b4 w2 hs3 => ?_
 refine zE 1 (hK1 _ _ ?_)
 refine W.seq fun K5 hK5 => ?_
 refine W.sr fun K6 hK6 => ?_
 refine zR 2 ?_
 refine zC00 hs3 (contains_spec (lc := lc) (hsz := (by omega)) (hl := (hs3.entAt 2 rfl hA)) (hb := (hs3.heapAt 0 rfl)) B _) fun w7 hs9 => ?_
 refine zD (hK6 _ _ ?_)
 refine W.cond (l.any (bad words.length)) (by kernel_rfl) (fun h10 => ?_) (fun h10 => ?_)
 ·
  have h10p : (l.any (bad words.length)) = true := h10
  refine W.sr fun K11 hK11 => ?_
  refine zE 1 (hK11 _ _ ?_)
  refine W.ret (ret_seq ?_)
  have hs12 := St.f2 hs9
  have hs13 := St.f2 hs12
  have hs14 := St.tk2 hs13
  have e_ : vapply words l = (8, words) := if_pos (by assumption)
  refine ret_of (.int .i64 8) (by kernel_rfl) ⟨_, ⟨by rw [e_], rfl⟩, by rw [e_]; exact hs14⟩
 ·
  have h10p : (l.any (bad words.length)) = false := h10
  refine W.skip ?_
  refine hK5 _ _ ?_
  refine W.seq fun K15 hK15 => ?_
  refine W.sr fun K16 hK16 => ?_
  refine zE 3 (hK16 _ _ ?_)
  refine W.block ?_
  refine W.loop (G := Nat) (fun | k, s_, w_ => (∃ us, s_ = slots 23 [(2, (.pointer (some ⟨b4, 0, none⟩))), (10, (.slice la l.length lc)), (11, (.int .i64 (l.length : Int))), (12, (.int .i64 (k : Int)))] us) ∧ St B w l0 w_ [blk b4 (.cells [(.slice wa words.length wc)].toArray 36 (0, 0)), kU64.row wa wc (vflat words (l.take k)), A] ∧ (k ≤ l.length)) (fun k => l.length - k) 0 ⟨slots_intro _ (by kernel_rfl), hs9, Nat.zero_le _⟩ ?_
  rintro k _ w17 ⟨⟨us, rfl⟩, hs18, hk_⟩
  refine W.sr fun K19 hK19 => ?_
  refine zE 1 (hK19 _ _ ?_)
  refine W.seq fun K20 hK20 => ?_
  refine W.cond (decide ((k : Int) < (l.length : Int))) (by kernel_rfl) (fun h21 => ?_) (fun h21 => ?_)
  ·
   have h21p := of_decide_eq_true h21
   have hin := not_any_get (l := l) (n := words.length) (k := k) (by assumption) (by omega)
   refine W.skip ?_
   refine hK20 _ _ ?_
   refine W.seq fun K22 hK22 => ?_
   refine W.block ?_
   refine W.sr fun K23 hK23 => ?_
   have hk24 : k < l.length := by omega
   refine ops_R (runs_index (a := la) (n := l.length) (z := (k : Int)) (size := 2) k rfl hk24 (kWr.addr (hs18.entAt 2 rfl hA) hk24) (by kernel_rfl)) ?_
   refine ops_R (runs_loadAgg (cs := [(.int .i64 ((l.getD k (0, 0)).1)), (.int .u64 ((l.getD k (0, 0)).2))]) (by kernel_rfl) (kWr.all (hs18.entAt 2 rfl hA) hk24 (0, 0) 0 rfl)) ?_
   refine zN [(.int .i64 0), (.int .u64 0)] 177 hs18 fun b27 w25 hs26 => ?_
   refine ops_store (off := 0) (cs := [(.int .i64 0), (.int .u64 0)]) (vs := [(.int .i64 ((l.getD k (0, 0)).1)), (.int .u64 ((l.getD k (0, 0)).2))]) hs26 (by kernel_rfl) (by simp) rfl (fun w28 hs29 => ?_)
   have hs30 : St B w l0 w28 [blk b27 (.cells [(.int .i64 ((l.getD k (0, 0)).1)), (.int .u64 ((l.getD k (0, 0)).2))].toArray 177 (0, 0)), blk b4 (.cells [(.slice wa words.length wc)].toArray 36 (0, 0)), kU64.row wa wc (vflat words (l.take k)), A] := hs29
   refine zD (hK23 _ _ ?_)
   refine W.region ?_
   refine zL ⟨b4, 0, none⟩ (.slice wa words.length wc) (hs30.cellAt 1 rfl rfl) ?_
   refine zR 1 ?_
   refine zL ⟨b27, 0, none⟩ (.int .i64 ((l.getD k (0, 0)).1)) (hs30.cellAt 0 rfl rfl) ?_
   refine zR 1 ?_
   refine zL ⟨b27, 1, none⟩ (.int .u64 ((l.getD k (0, 0)).2)) (hs30.cellAt 0 rfl rfl) ?_
   have hk31 : ((l.getD k (0, 0)).1).toNat < words.length := by omega
   have hk32 : ((l.getD k (0, 0)).1).toNat < (vflat words (l.take k)).length := (by rw [vflat_length]; exact hk31)
   refine ops_R (runs_index (a := wa) (n := words.length) (z := (l.getD k (0, 0)).1) (size := 1) (((l.getD k (0, 0)).1).toNat) (by omega) hk31 (kU64.addr (St.kcells kU64 hs30 2 rfl) hk32) (by kernel_rfl)) ?_
   have hs35 := St.f2 hs30
   refine ops_storeK kU64 (j := 0) (vs := [(.int .u64 ((l.getD k (0, 0)).2))]) 0 ((l.getD k (0, 0)).2) hs35 hk32 (Nat.le_of_ble_eq_true rfl) (by simp) rfl rfl (by kernel_rfl) (fun w33 hs34 => ?_)
   refine zD ?_
   refine normal_block ?_
   refine hK22 _ _ ?_
   refine W.region ?_
   refine ops_val (v := .int .i64 (IntKind.i64.wrap ((k : Int) + 1))) (v' := .int .i64 ((k + 1 : Nat) : Int)) (by kernel_rfl) (congrArg (Value.int .i64) (wrap_i64 (by omega) (by omega))) ?_
   refine zE 1 ?_
   have e_ := vflat_step words (l := l) (k := k) (by omega)
   have hs37 := St.f3 hs34
   have hs38 := St.f1 hs37
   have hs39 := St.f3 hs38
   have hs40 := St.tk3 hs39
   rw [e_] at hs40
   exact ⟨k + 1, ⟨slots_intro _ (by kernel_rfl), hs40, by omega⟩, by first | omega | (dsimp only; omega)⟩
  ·
   have h21p := of_decide_eq_false h21
   refine W.exit (exit_seq (exit_seq (exit_here ?_)))
   refine hK15 _ _ ?_
   refine W.sr fun K41 hK41 => ?_
   refine zE 1 (hK41 _ _ ?_)
   refine W.ret ?_
   have hs42 := St.f2 hs18
   have hs43 := St.f2 hs42
   have hs44 := St.tk2 hs43
   have hno : ¬ (l.any (bad words.length)) = true := by simp only [‹l.any (bad words.length) = false›]; decide
   have e_ : vapply words l = (0, vflat words l) := if_neg hno
   have e2_ : l.take k = l := List.take_of_length_le (by omega)
   have hs_ := hs44
   rw [e2_] at hs_
   refine ret_of (.int .i64 0) (by kernel_rfl) ⟨_, ⟨by rw [e_], rfl⟩, by rw [e_]; exact hs_⟩

theorem flat_spec {p : Value} {img : List Int} {l : List (Int × Int)} (B : Nat) (w : World) (hv : ViewAt p img l w) : Spec Tryd.prog 29 #[p] B w [] (fun v H' => ∃ a' c', v = .slice a' (vflat img l).length c' ∧ H' = [kU64.row a' c' (vflat img l)]) := by
 refine spec_Q Tryd.func29 rfl fun hs => ?_
 have hv0 := hv
 obtain ⟨x, rfl, hok, hb, hi, hm, ho, hcap⟩ := hv
 have hroom := hok.many
 refine W.sr fun K1 hK1 => ?_
 refine zE 1 (hK1 _ _ ?_)
 refine W.seq fun K2 hK2 => ?_
 refine W.sr fun K3 hK3 => ?_
 refine zE 2 (hK3 _ _ ?_)
 refine W.cond_false false (by kernel_rfl) rfl ?_
 refine W.skip ?_
 refine hK2 _ _ ?_
 refine W.sr fun K4 hK4 => ?_
 refine zR 3 ?_
 refine zL ⟨x.b, 0, none⟩ (.slice x.ia img.length x.ic) (cell_of_blk (hs.old hb) rfl) ?_
 refine ops_call0 hs (by kernel_rfl) (clone_spec (hc := (hs.oldCells hi)) (hn := hcap) (hsz := hok.size) B _) ?_
 rintro _ _ w7 ⟨a5, c6, rfl, rfl⟩ hs8
 have hs9 := St.ap1 hs8
 refine zE 1 (hK4 _ _ ?_)
 refine W.sr fun K10 hK10 => ?_
 refine zR 2 ?_
 refine ops_call0 hs9 (by kernel_rfl) (writes_spec (hv := (viewAt_old hs9 hv0)) B _) ?_
 rintro _ _ w13 ⟨a11, c12, rfl, rfl⟩ hs14
 have hs15 := St.ap1 hs14
 have hs16 := St.f1 hs15
 refine zC22 hs16 (apply_spec (wa := a5) (wc := c6) (la := a11) (lc := c12) (words := img) (l := l) (A := kWr.row a11 c12 l) (hA := (fun h => rowA_cells h)) (hsz := (by omega)) B _) fun w17 hs19 => ?_
 refine zD (hK10 _ _ ?_)
 refine W.sr fun K20 hK20 => ?_
 refine zE 2 (hK20 _ _ ?_)
 refine W.ret ?_
 have hs21 := St.tk1 hs19
 have e_ : vapply img l = (0, vflat img l) := if_neg (by rw [inside_any hok.inside]; decide)
 have hs_ := hs21
 rw [e_] at hs_
 refine ret_of (.slice a5 img.length c6) (by kernel_rfl) ⟨_, ⟨a5, c6, by rw [vflat_length], rfl⟩, hs_⟩

end Go.Proofs.YthimamnblklkbaaDoor

set_option maxRecDepth 20000
namespace Go.Proofs.YthimamnblklkbaaDoor
open Go Go.RowKit
set_option linter.unusedSimpArgs false
set_option linter.unusedVariables false

theorem find_spec {p : Value} {img : List Int} {l : List (Int × Int)} {at_ : Int} (B : Nat) (w : World) (hv : RefAt p img l w) : Spec Tryd.prog 148 #[p, (.int .i64 at_)] B w [] (fun v H' => ∃ r : Int, FindR l at_ r ∧ v = .int .i64 r ∧ H' = []) := by
 refine spec_Q Tryd.func148 rfl fun hs => ?_
 have hv0 := hv
 obtain ⟨x, rfl, hok, hb, hi, ho, hcap⟩ := hv
 have hroom := hok.many
 have hroom2 := hok.size
 refine W.sr fun K1 hK1 => ?_
 refine zE 1 (hK1 _ _ ?_)
 refine W.seq fun K2 hK2 => ?_
 refine W.sr fun K3 hK3 => ?_
 refine zE 1 (hK3 _ _ ?_)
 refine W.block ?_
 refine W.loop (G := Nat) (fun | k, s_, w_ => (∃ us, s_ = slots 26 [(0, (.pointer (some ⟨x.b, 0, none⟩))), (1, (.int .i64 at_)), (5, (.int .i64 (k : Int)))] us) ∧ St B w [] w_ [] ∧ (k ≤ l.length) ∧ (∀ j, j < k → ¬ (l.getD j (0, 0)).1 = at_)) (fun k => l.length - k) 0 ⟨slots_intro _ (by kernel_rfl), hs, Nat.zero_le _, fun j hj => absurd hj (by omega)⟩ ?_
 rintro k _ w4 ⟨⟨us, rfl⟩, hs5, hk_, hk1⟩
 refine W.seq fun K6 hK6 => ?_
 refine W.sr fun K7 hK7 => ?_
 refine zR 4 ?_
 refine zL ⟨x.b, 1, none⟩ (.slice x.la l.length x.lc) (cell_of_blk (hs5.old hb) rfl) ?_
 refine zE 2 (hK7 _ _ ?_)
 refine W.cond (decide ((k : Int) < (l.length : Int))) (by kernel_rfl) (fun h8 => ?_) (fun h8 => ?_)
 ·
  have h8p := of_decide_eq_true h8
  refine W.skip ?_
  refine hK6 _ _ ?_
  refine W.seq fun K9 hK9 => ?_
  refine W.block ?_
  refine W.sr fun K10 hK10 => ?_
  refine zR 3 ?_
  refine zL ⟨x.b, 1, none⟩ (.slice x.la l.length x.lc) (cell_of_blk (hs5.old hb) rfl) ?_
  refine zR 1 ?_
  have hk11 : k < l.length := by omega
  refine ops_R (runs_index (a := x.la) (n := l.length) (z := (k : Int)) (size := 2) k rfl hk11 (kWr.addr (hs5.oldCells ho) hk11) (by kernel_rfl)) ?_
  refine zR 1 ?_
  refine zL ((adr x.la (k * 2)).add 0) (.int .i64 ((l.getD k (0, 0)).1)) (kWr.at (hs5.oldCells ho) hk11 (0, 0) 0 rfl) ?_
  refine zE 2 (hK10 _ _ ?_)
  refine W.cond (decide ((l.getD k (0, 0)).1 = at_)) (by kernel_rfl) (fun h12 => ?_) (fun h12 => ?_)
  ·
   have h12p := of_decide_eq_true h12
   refine W.sr fun K13 hK13 => ?_
   refine zE 2 (hK13 _ _ ?_)
   refine W.ret (ret_block (ret_seq (ret_seq (ret_block (ret_seq ?_)))))
   refine ret_of (.int .i64 (k : Int)) (by kernel_rfl) ⟨_, ⟨_, .inr ⟨k, rfl, by omega, by assumption⟩, rfl, rfl⟩, hs5⟩
  ·
   have h12p := of_decide_eq_false h12
   refine W.skip ?_
   refine normal_block ?_
   refine hK9 _ _ ?_
   refine W.region ?_
   refine zR 1 ?_
   refine ops_val (v := .int .i64 (IntKind.i64.wrap ((k : Int) + 1))) (v' := .int .i64 ((k + 1 : Nat) : Int)) (by kernel_rfl) (congrArg (Value.int .i64) (wrap_i64 (by omega) (by omega))) ?_
   refine zE 1 ?_
   have hk2 : ∀ j, j < k + 1 → ¬ (l.getD j (0, 0)).1 = at_ := fun j hj => (Nat.lt_succ_iff_lt_or_eq.1 hj).elim (hk1 j) (fun e => by subst e; assumption)
   exact ⟨k + 1, ⟨slots_intro _ (by kernel_rfl), hs5, by omega, hk2⟩, by first | omega | (dsimp only; omega)⟩
 ·
  have h8p := of_decide_eq_false h8
  refine W.exit (exit_seq (exit_seq (exit_here ?_)))
  refine hK2 _ _ ?_
  refine W.sr fun K14 hK14 => ?_
  refine zE 1 (hK14 _ _ ?_)
  refine W.ret ?_
  refine ret_of (.int .i64 (-1)) (by kernel_rfl) ⟨_, ⟨_, .inl ⟨rfl, find_none (fun j hj => hk1 j (by omega))⟩, rfl, rfl⟩, hs5⟩

theorem rget_spec {p : Value} {img : List Int} {l : List (Int × Int)} {at_ : Int} (B : Nat) (w : World) (hv : RefAt p img l w) : Spec Tryd.prog 109 #[p, (.int .i64 at_)] B w [] (fun v H' => v = .int .u64 (vget img l at_) ∧ H' = []) := by
 refine spec_Q Tryd.func109 rfl fun hs => ?_
 have hv0 := hv
 obtain ⟨x, rfl, hok, hb, hi, ho, hcap⟩ := hv
 have hroom := hok.many
 have hroom2 := hok.size
 refine W.sr fun K1 hK1 => ?_
 refine zE 1 (hK1 _ _ ?_)
 refine W.seq fun K2 hK2 => ?_
 refine W.sr fun K3 hK3 => ?_
 refine zR 3 ?_
 rcases Bool.eq_false_or_eq_true (decide (at_ < 0)) with h4 | h4
 ·
  have h4p := of_decide_eq_true h4
  refine zS 8 h4 ?_
  refine zS 7 h4 ?_
  refine zE 8 (hK3 _ _ ?_)
  refine W.cond_true true (by kernel_rfl) rfl ?_
  refine W.sr fun K5 hK5 => ?_
  refine zE 1 (hK5 _ _ ?_)
  refine W.ret (ret_seq ?_)
  refine ret_of (.int .u64 0) (by kernel_rfl) ⟨_, ⟨congrArg (Value.int .u64) (by simp only [vget]; rw [if_neg (by omega)]), rfl⟩, hs⟩
 ·
  have h4p := of_decide_eq_false h4
  refine zS 8 h4 ?_
  refine zS 7 h4 ?_
  refine zR 4 ?_
  refine zL ⟨x.b, 0, none⟩ (.slice x.ia img.length x.ic) (cell_of_blk (hs.old hb) rfl) ?_
  refine zE 3 (hK3 _ _ ?_)
  refine W.cond (decide (at_ ≥ (img.length : Int))) (by kernel_rfl) (fun h6 => ?_) (fun h6 => ?_)
  ·
   have h6p := of_decide_eq_true h6
   refine W.sr fun K7 hK7 => ?_
   refine zE 1 (hK7 _ _ ?_)
   refine W.ret (ret_seq ?_)
   refine ret_of (.int .u64 0) (by kernel_rfl) ⟨_, ⟨congrArg (Value.int .u64) (by simp only [vget]; rw [if_neg (by omega)]), rfl⟩, hs⟩
  ·
   have h6p := of_decide_eq_false h6
   refine W.skip ?_
   refine hK2 _ _ ?_
   refine W.sr fun K8 hK8 => ?_
   refine zR 2 ?_
   refine ops_call0 hs (by kernel_rfl) (find_spec (p := (.pointer (some ⟨x.b, 0, none⟩))) (img := img) (l := l) (at_ := at_) (hv := (refAt_old hs hv0)) B _) ?_
   rintro _ _ w11 ⟨r9, hr10, rfl, rfl⟩ hs12
   have hs13 := St.ap0 hs12
   refine zE 1 (hK8 _ _ ?_)
   refine W.seq fun K14 hK14 => ?_
   refine W.sr fun K15 hK15 => ?_
   refine zE 2 (hK15 _ _ ?_)
   refine W.cond (decide (r9 ≥ 0)) (by kernel_rfl) (fun h16 => ?_) (fun h16 => ?_)
   ·
    have h16p := of_decide_eq_true h16
    have hlt := FindR.lt hr10 (by omega)
    refine W.sr fun K17 hK17 => ?_
    refine zR 3 ?_
    refine zL ⟨x.b, 1, none⟩ (.slice x.la l.length x.lc) (cell_of_blk (hs13.old hb) rfl) ?_
    refine zR 1 ?_
    have hk18 : r9.toNat < l.length := by omega
    refine ops_R (runs_index (a := x.la) (n := l.length) (z := r9) (size := 2) r9.toNat (by omega) hk18 (kWr.addr (hs13.oldCells ho) hk18) (by kernel_rfl)) ?_
    refine zR 1 ?_
    refine zL ((adr x.la (r9.toNat * 2)).add 1) (.int .u64 ((l.getD r9.toNat (0, 0)).2)) (kWr.at (hs13.oldCells ho) hk18 (0, 0) 1 rfl) ?_
    refine zE 1 (hK17 _ _ ?_)
    refine W.ret (ret_seq ?_)
    refine ret_of (.int .u64 ((l.getD r9.toNat (0, 0)).2)) (by kernel_rfl) ⟨_, ⟨congrArg (Value.int .u64) (rget_some hok.keys hr10 (by omega) (by omega)), rfl⟩, hs13⟩
   ·
    have h16p := of_decide_eq_false h16
    refine W.skip ?_
    refine hK14 _ _ ?_
    refine W.sr fun K19 hK19 => ?_
    refine zR 3 ?_
    refine zL ⟨x.b, 0, none⟩ (.slice x.ia img.length x.ic) (cell_of_blk (hs13.old hb) rfl) ?_
    refine zR 1 ?_
    have hk20 : at_.toNat < img.length := by omega
    refine ops_R (runs_index (a := x.ia) (n := img.length) (z := at_) (size := 1) at_.toNat (by omega) hk20 (kU64.addr (hs13.oldCells hi) hk20) (by kernel_rfl)) ?_
    refine zL ((adr x.ia (at_.toNat * 1)).add 0) (.int .u64 (img.getD at_.toNat 0)) (kU64.at (hs13.oldCells hi) hk20 0 0 rfl) ?_
    refine zE 1 (hK19 _ _ ?_)
    refine W.ret ?_
    refine ret_of (.int .u64 (img.getD at_.toNat 0)) (by kernel_rfl) ⟨_, ⟨congrArg (Value.int .u64) (rget_none hr10 (by omega) (by omega)), rfl⟩, hs13⟩

end Go.Proofs.YthimamnblklkbaaDoor

set_option maxRecDepth 20000
namespace Go.Proofs.YthimamnblklkbaaDoor
open Go Go.RowKit
set_option linter.unusedSimpArgs false
set_option linter.unusedVariables false

theorem rnew_spec {a : Option Addr} {c : Nat} {xs : List Int} (B : Nat) (w : World) (hc : CellsAt a (kU64.cells xs) w) (hn : a = none → c = 0) (hsz : xs.length ≤ 17592186044415) : Spec Tryd.prog 40 #[(.slice a xs.length c)] B w [] (fun v H' => ∃ b, v = ptr b ∧ H' = [refA (ptr b) xs []]) := by
 refine spec_Q Tryd.func40 rfl fun hs => ?_
 refine W.sr fun K1 hK1 => ?_
 refine zE 1 (hK1 _ _ ?_)
 refine W.sr fun K2 hK2 => ?_
 refine ops_new (fun b => .slice (some ⟨b, 0, none⟩) 0 0) (.cells [].toArray 38 (0, 0)) hs (by kernel_rfl) (fun b5 w3 hs4 => ?_)
 refine zR 1 ?_
 have hs6 : St B w [] w3 [kU64.row (some ⟨b5, 0, none⟩) 0 ([])] := St.kblk kU64 [] hs4 rfl rfl (by simp only [List.length_cons, List.length_nil]; decide)
 refine ops_appendK kU64 (bytes := 8) (a' := a) (c' := c) (l := []) (m := xs) hs6 (by kernel_rfl) hn (hs6.oldCells hc) (by (unfold maxLen; try simp) <;> omega) (by (try simp) <;> omega) (fun a7 c8 w9 hs10 => ?_)
 have hs11 : St B w [] w9 [kU64.row a7 c8 xs] := hs10
 refine zR 1 ?_
 refine zN [(.slice a7 xs.length c8), (.slice none 0 0), (.bool false)] 71 hs11 fun b14 w12 hs13 => ?_
 refine zE 1 (hK2 _ _ ?_)
 refine W.ret ?_
 have hk := St.knil kWr hs13
 have hk2 := hk.perm (H' := [blk b14 (.cells [(.slice a7 xs.length c8), (.slice none 0 0), (.bool false)].toArray 71 (0, 0)), kU64.row a7 c8 xs, kWr.row none 0 []]) (perm_last _ _)
 refine ret_of (.pointer (some ⟨b14, 0, none⟩)) (by kernel_rfl) ⟨_, ⟨b14, rfl, rfl⟩, ?_⟩
 exact ref_close (l := []) (ia := a7) (ic := c8) (la := none) (lc := 0) (many := false) (VOk.nil hsz) hk2

theorem rput_spec {p : Value} {img : List Int} {l : List (Int × Int)} {at_ x_ : Int} (B : Nat) (w : World) : Spec Tryd.prog 114 #[p, (.int .i64 at_), (.int .u64 x_)] B w [refA p img l] (fun v H' => v = .int .i64 (vput img l at_ x_).1 ∧ H' = [refA p img (vput img l at_ x_).2]) := by
 refine spec_W Tryd.func114 rfl fun l0 hs => ?_
 obtain ⟨x, ⟨rfl, hok⟩, hs0⟩ := St.open hs
 have hs1 : St B w l0 w [blk x.b (.cells [(.slice x.ia img.length x.ic), (.slice x.la l.length x.lc), (.bool x.many)].toArray 71 (0, 0)), kU64.row x.ia x.ic img, kWr.row x.la x.lc l] := hs0
 have hroom := hok.many
 have hroom2 := hok.size
 refine W.sr fun K1 hK1 => ?_
 refine zE 1 (hK1 _ _ ?_)
 refine W.seq fun K2 hK2 => ?_
 refine W.sr fun K3 hK3 => ?_
 refine zR 3 ?_
 rcases Bool.eq_false_or_eq_true (decide (at_ < 0)) with h4 | h4
 ·
  have h4p := of_decide_eq_true h4
  refine zS 10 h4 ?_
  refine zS 9 h4 ?_
  refine zE 8 (hK3 _ _ ?_)
  refine W.cond_true true (by kernel_rfl) rfl ?_
  refine W.sr fun K5 hK5 => ?_
  refine zE 1 (hK5 _ _ ?_)
  refine W.ret (ret_seq ?_)
  have hs_ := hs1
  have e_ : vput img l at_ x_ = (8, l) := by simp only [vput]; rw [if_neg (by omega)]
  refine ret_of (.int .i64 8) (by kernel_rfl) ⟨_, ⟨by rw [e_], rfl⟩, by rw [e_]; exact ref_close (l := l) (ia := x.ia) (ic := x.ic) (la := x.la) (lc := x.lc) (many := x.many) hok hs_⟩
 ·
  have h4p := of_decide_eq_false h4
  refine zS 10 h4 ?_
  refine zS 9 h4 ?_
  refine zR 4 ?_
  refine zL ⟨x.b, 0, none⟩ (.slice x.ia img.length x.ic) (hs1.cellAt 0 rfl rfl) ?_
  refine zE 3 (hK3 _ _ ?_)
  refine W.cond (decide (at_ ≥ (img.length : Int))) (by kernel_rfl) (fun h6 => ?_) (fun h6 => ?_)
  ·
   have h6p := of_decide_eq_true h6
   refine W.sr fun K7 hK7 => ?_
   refine zE 1 (hK7 _ _ ?_)
   refine W.ret (ret_seq ?_)
   have hs_ := hs1
   have e_ : vput img l at_ x_ = (8, l) := by simp only [vput]; rw [if_neg (by omega)]
   refine ret_of (.int .i64 8) (by kernel_rfl) ⟨_, ⟨by rw [e_], rfl⟩, by rw [e_]; exact ref_close (l := l) (ia := x.ia) (ic := x.ic) (la := x.la) (lc := x.lc) (many := x.many) hok hs_⟩
  ·
   have h6p := of_decide_eq_false h6
   refine W.skip ?_
   refine hK2 _ _ ?_
   refine W.sr fun K8 hK8 => ?_
   refine zR 2 ?_
   refine ops_call0 hs1 (by kernel_rfl) (find_spec (p := (.pointer (some ⟨x.b, 0, none⟩))) (img := img) (l := l) (at_ := at_) (hv := ⟨x, rfl, hok, hs1.heapAt 0 rfl, St.kcells kU64 hs1 1 rfl, St.kcells kWr hs1 2 rfl, St.capnil kU64 hs1 1 rfl⟩) B _) ?_
   rintro _ _ w11 ⟨r9, hr10, rfl, rfl⟩ hs12
   have hs13 := St.ap0 hs12
   refine zE 1 (hK8 _ _ ?_)
   refine W.seq fun K14 hK14 => ?_
   refine W.sr fun K15 hK15 => ?_
   refine zE 2 (hK15 _ _ ?_)
   refine W.cond (decide (r9 ≥ 0)) (by kernel_rfl) (fun h16 => ?_) (fun h16 => ?_)
   ·
    have h16p := of_decide_eq_true h16
    have hlt := FindR.lt hr10 (by omega)
    refine W.sr fun K17 hK17 => ?_
    refine zR 3 ?_
    refine zL ⟨x.b, 1, none⟩ (.slice x.la l.length x.lc) (hs13.cellAt 0 rfl rfl) ?_
    refine zR 2 ?_
    have hk18 : r9.toNat < l.length := by omega
    refine ops_R (runs_index (a := x.la) (n := l.length) (z := r9) (size := 2) r9.toNat (by omega) hk18 (kWr.addr (St.kcells kWr hs13 2 rfl) hk18) (by kernel_rfl)) ?_
    refine zR 1 ?_
    have hs21 := St.f2 hs13
    refine ops_storeK kWr (j := 1) (vs := [(.int .u64 x_)]) (0, 0) ((l.getD r9.toNat (0, 0)).1, x_) hs21 hk18 (Nat.le_of_ble_eq_true rfl) (by simp) rfl rfl (by kernel_rfl) (fun w19 hs20 => ?_)
    refine zD (hK17 _ _ ?_)
    refine W.sr fun K23 hK23 => ?_
    refine zE 1 (hK23 _ _ ?_)
    refine W.ret (ret_seq ?_)
    have hs24 := St.f2 hs20
    have hs25 := St.f2 hs24
    have hs_ := hs25
    have e_ : vput img l at_ x_ = (0, vset l at_ x_) := rput_some hok.keys hr10 (by omega) (by omega)
    rw [← vset_length_some (v := x_) (FindR.isSome hok.keys hr10 (by omega))] at hs_
    have el_ := rput_set (x := x_) hok.keys hr10 (by omega)
    rw [el_] at hs_
    refine ret_of (.int .i64 0) (by kernel_rfl) ⟨_, ⟨by rw [e_], rfl⟩, by rw [e_]; exact ref_close (l := (vset l at_ x_)) (ia := x.ia) (ic := x.ic) (la := x.la) (lc := x.lc) (many := x.many) (hok.put (by omega) (.inl (FindR.isSome hok.keys hr10 (by omega)))) hs_⟩
   ·
    have h16p := of_decide_eq_false h16
    refine W.skip ?_
    refine hK14 _ _ ?_
    refine W.seq fun K26 hK26 => ?_
    refine W.sr fun K27 hK27 => ?_
    refine zR 3 ?_
    refine zL ⟨x.b, 1, none⟩ (.slice x.la l.length x.lc) (hs13.cellAt 0 rfl rfl) ?_
    refine zE 2 (hK27 _ _ ?_)
    refine W.cond (decide ((l.length : Int) ≥ 96)) (by kernel_rfl) (fun h28 => ?_) (fun h28 => ?_)
    ·
     have h28p := of_decide_eq_true h28
     refine W.sr fun K29 hK29 => ?_
     refine zR 3 ?_
     refine ops_store (off := 2) (cs := [(.slice x.ia img.length x.ic), (.slice x.la l.length x.lc), (.bool x.many)]) (vs := [(.bool true)]) hs13 (by kernel_rfl) (by simp) rfl (fun w30 hs31 => ?_)
     have hs32 : St B w l0 w30 [blk x.b (.cells [(.slice x.ia img.length x.ic), (.slice x.la l.length x.lc), (.bool true)].toArray 71 (0, 0)), kU64.row x.ia x.ic img, kWr.row x.la x.lc l] := hs31
     refine zD (hK29 _ _ ?_)
     refine W.sr fun K33 hK33 => ?_
     refine zE 1 (hK33 _ _ ?_)
     refine W.ret (ret_seq ?_)
     have hs_ := hs32
     have e_ : vput img l at_ x_ = (5, l) := rput_many hr10 (by omega) (by omega) (by omega)
     refine ret_of (.int .i64 5) (by kernel_rfl) ⟨_, ⟨by rw [e_], rfl⟩, by rw [e_]; exact ref_close (l := l) (ia := x.ia) (ic := x.ic) (la := x.la) (lc := x.lc) (many := true) hok hs_⟩
    ·
     have h28p := of_decide_eq_false h28
     refine W.skip ?_
     refine hK26 _ _ ?_
     refine W.sr fun K34 hK34 => ?_
     refine zR 4 ?_
     refine zL ⟨x.b, 1, none⟩ (.slice x.la l.length x.lc) (hs13.cellAt 0 rfl rfl) ?_
     refine zR 3 ?_
     refine ops_new (fun b => .slice (some ⟨b, 0, none⟩) 1 1) (.cells [(.int .i64 at_), (.int .u64 x_)].toArray 177 (0, 0)) hs13 (by kernel_rfl) (fun b37 w35 hs36 => ?_)
     have hs38 := St.f3 hs36
     refine ops_appendK kWr (bytes := 16) (a' := (some ⟨b37, 0, none⟩)) (c' := 1) (l := l) (m := [(at_, x_)]) hs38 (by kernel_rfl) (by simp) (cells_blk (hs38.heapAt 1 rfl)) (by (unfold maxLen; try simp) <;> omega) (by (try simp) <;> omega) (fun a39 c40 w41 hs42 => ?_)
     refine zR 2 ?_
     have hs45 := St.f2 hs42
     refine ops_store (off := 1) (cs := [(.slice x.ia img.length x.ic), (.slice x.la l.length x.lc), (.bool x.many)]) (vs := [(.slice a39 ((l ++ [(at_, x_)]).length) c40)]) hs45 (by kernel_rfl) (by simp) rfl (fun w43 hs44 => ?_)
     have hs46 : St B w l0 w43 [blk x.b (.cells [(.slice x.ia img.length x.ic), (.slice a39 ((l ++ [(at_, x_)]).length) c40), (.bool x.many)].toArray 71 (0, 0)), kWr.row a39 c40 (l ++ [(at_, x_)]), blk b37 (.cells [(.int .i64 at_), (.int .u64 x_)].toArray 177 (0, 0)), kU64.row x.ia x.ic img] := hs44
     refine zD (hK34 _ _ ?_)
     refine W.sr fun K47 hK47 => ?_
     refine zE 1 (hK47 _ _ ?_)
     refine W.ret ?_
     have hs48 := St.f1 hs46
     have hs49 := St.f3 hs48
     have hs50 := St.f2 hs49
     have hs51 := St.tk3 hs50
     have hs_ := hs51
     have e_ : vput img l at_ x_ = (0, vset l at_ x_) := rput_new hr10 (by omega) (by omega) (by omega)
     have el_ := rput_app (x := x_) hr10 (by omega)
     rw [el_] at hs_
     refine ret_of (.int .i64 0) (by kernel_rfl) ⟨_, ⟨by rw [e_], rfl⟩, by rw [e_]; exact ref_close (l := (vset l at_ x_)) (ia := x.ia) (ic := x.ic) (la := a39) (lc := c40) (many := x.many) (hok.put (by omega) (.inr (by omega))) hs_⟩

end Go.Proofs.YthimamnblklkbaaDoor

namespace Go.Proofs.YthimamnblklkbaaDoor
open Go.ChangeShapes Go.WideShapes Go.ChangeAt Go.RowKit Go.Deep

theorem law_own : ownKnob Tryd.prog.godebug = none := by kernel_rfl
theorem law_laid : laidOutB Tryd.prog = true := by kernel_rfl

theorem law_calls {P : Program} {f : FuncId} {args : Array Value} {w : World} (h : Spec P f args w.heap.size w [] (fun v H' => v = .bool true ∧ H' = [])) :
    Calls P f args w fun e w' => e = .returned (.bool true) ∧ Below w.heap.size w w' := by
  refine (h [] (Nat.le_refl _) (fun _ hb => (List.not_mem_nil hb).elim)).mono ?_
  rintro e w' ⟨v, rfl, H', l', ⟨rfl, rfl⟩, hs, hu⟩
  exact ⟨rfl, hu.os, hu.tape, hu.output, hu.size, fun k hk => hu.block k hk (by simp)⟩

section
variable {H : Type} {enc : TypeId × Value → H} {P : Program}

theorem law_trods (hl : laidOutB P = true) {W W' : World} (hB : Below W.heap.size W W') : ∀ {ts : List TypeId} {vs : List Value} {ds : List (DataW H)} {ps : List MemPlace},
    (ts.all fun t => P.readableRec t && decide (t < P.types.size)) = true → DataW.TrodAll enc P W 0 (fun _ => true) true ts vs ds ps → (∀ x ∈ ps, x.block < W.heap.size) → DataW.TrodAll enc P W' 0 (fun b => decide (b < W.heap.size)) true ts vs ds ps
  | [], [], [], _, _, h, _ => h
  | t :: ts, v :: vs, d :: ds, ps, hp, h, hlt => by
    obtain ⟨p, q, h1, h2, rfl⟩ := h
    simp only [List.all_cons, Bool.and_eq_true, decide_eq_true_eq] at hp
    exact ⟨p, q, Below.trod hl hp.1.1 hp.1.2 h1 hB (fun x hx => hlt x (List.mem_append_left _ hx)), law_trods hl hB hp.2 h2 (fun x hx => hlt x (List.mem_append_right _ hx)), rfl⟩

theorem law_post {s : ChangeSpec} {f : Func} {tb : TypeId} {W W' : World} {args : Array Value} {ds gs : List (DataW H)} {before : List MemPlace} (hl : laidOutB P = true)
    (hp : (f.params.toList.all fun t => P.readableRec t && decide (t < P.types.size)) = true) (hv : s.vars = []) (hr : f.resultTypes = #[tb]) (hb : P.underlying tb = some .bool)
    (hW : DataW.Whole enc P f.params.toList s.vars false W args.toList ds gs before) (hB : Below W.heap.size W W') (hfn : (s.fn H ds).results = [.lit (.bool true)] ∧ (s.fn H ds).args = ds ∧ (s.fn H ds).vars = []) :
    ∃ v, (Ending.returned (.bool true)) = .returned v ∧ s.post enc P f false true false false W args v W' := by
  have hW' := hW
  obtain ⟨p, q, hA, hV, rfl, _, _⟩ := hW'
  rw [hv] at hV
  obtain ⟨rfl, rfl⟩ := trodVars_none hV
  have hlt : ∀ x ∈ p ++ [], x.block < W.heap.size := fun x hx => hW.lt x hx
  have e : ds ++ [] = ds := List.append_nil ds
  refine ⟨_, rfl, ds, [], p ++ [], [], p, [], hW, ?_, ?_, ?_, hB.frame _, fun h => by cases h⟩
  · rw [e, hfn.1, hr]; exact trodAll_mk1 (shut_bool hb true)
  · rw [e, hfn.2.1]; exact law_trods hl hB hp hA (fun x hx => hlt x (by simpa using hx))
  · rw [e, hfn.2.2, hv]; exact rfl
end

section
variable {α : Type} (K : Kind α) {H : Type} {enc : TypeId × Value → H} {P : Program} {w : World} {base : Nat} {sp : Nat → Bool}

theorem list_of {Q : Nat → α → Prop} : ∀ n : Nat, (∀ i, i < n → ∃ x, Q i x) → ∃ l : List α, l.length = n ∧ ∀ (i : Nat) (x : α), l[i]? = some x → Q i x
  | 0, _ => ⟨[], rfl, fun i x h => by simp at h⟩
  | n + 1, h => by
    obtain ⟨l, hl, hq⟩ := list_of n (fun i hi => h i (by omega))
    obtain ⟨x, hx⟩ := h n (by omega)
    refine ⟨l ++ [x], by simp [hl], fun i y hy => ?_⟩
    by_cases hi : i < n
    · rw [List.getElem?_append_left (by omega)] at hy; exact hq i y hy
    · rw [List.getElem?_append_right (by omega)] at hy
      have h0 : i - l.length = 0 := by
        have := (List.getElem?_eq_some_iff.1 hy).1
        simp at this; omega
      rw [h0] at hy
      have e : i = n := by
        have := (List.getElem?_eq_some_iff.1 hy).1
        omega
      simp only [List.getElem?_cons_zero, Option.some.injEq] at hy
      subst hy e; exact hx

theorem Kind.cells_at {l : List α} {j : Nat} {c : Value} (h : (K.cells l)[j]? = some c) : ∃ (i k : Nat) (x : α), j = i * K.size + k ∧ l[i]? = some x ∧ (K.elem x)[k]? = some c := by
  have hlt := (List.getElem?_eq_some_iff.1 h).1
  rw [K.length] at hlt
  have hi : j / K.size < l.length := Nat.div_lt_of_lt_mul (by rw [Nat.mul_comm]; exact hlt)
  have hm : j % K.size < K.size := Nat.mod_lt _ K.pos
  have e : j = j / K.size * K.size + j % K.size := by rw [Nat.mul_comm]; exact (Nat.div_add_mod j K.size).symm
  rw [e, K.get (l[j / K.size]) hi hm] at h
  refine ⟨_, _, l[j / K.size], e, List.getElem?_eq_getElem hi, ?_⟩
  simpa [List.getD, List.getElem?_eq_getElem hi] using h

theorem open_kind {t : TypeId} {v : Value} {d : DataW H} {ps : List MemPlace} (good : α → Prop) (ht : P.underlying t = some (.slice K.e)) (hC : P.cellsOf K.e = K.size)
    (hread : ∀ (n : Nat) (cs : List Value) (y : DataW H × List MemPlace), cs.length = K.size → DataW.trod enc P w base sp true n K.e cs = some y → ∃ x, cs = K.elem x ∧ good x)
    {r : Reach} {b0 : Nat} (hval : Value.okWide P w r b0 t v) (h : DataW.Trod enc P w base sp true t v d ps) :
    ∃ (a : Option Addr) (cap : Nat) (l : List α), v = .slice a l.length cap ∧ (a = none → cap = 0) ∧ l.length ≤ maxLen ∧ CellsAt a (K.cells l) w ∧ ∀ x ∈ l, good x := by
  obtain ⟨fuel, h⟩ := h
  have hcells : v.cells.toList = [v] := by
    obtain ⟨a, n, c, rfl⟩ := okWide_slice ht hval
    rfl
  rw [hcells] at h
  rcases open_slice ht h with ⟨h0, _⟩ | ⟨a, len, cap, m, n, D, Pl, hcs, _, hl, hm, hmm, _, hi⟩
  · simp only [List.cons.injEq, and_true] at h0
    exact ⟨none, 0, [], h0, fun _ => rfl, Nat.zero_le _, rfl, by simp⟩
  · simp only [List.cons.injEq, and_true] at hcs
    have hlm : len ≤ m := by rw [hmm]; split <;> omega
    have each : ∀ i, i < len → ∃ x, good x ∧ ∀ (j : Nat) (c : Value), (K.elem x)[j]? = some c → w.cell? (a.add (i * K.size + j)) = some c := by
      intro i hil
      obtain ⟨cs', hc, ht'⟩ := hi i (by omega)
      rw [hC] at hc
      obtain ⟨_, hcl, hat⟩ := World.cells?_some hc
      obtain ⟨x, rfl, hg⟩ := hread n cs' _ hcl (by rw [← hC] at *; exact ht')
      refine ⟨x, hg, fun j c hj => ?_⟩
      have hjl : j < K.size := by rw [← K.elen x]; exact (List.getElem?_eq_some_iff.1 hj).1
      rw [← Go.Deep.add_add, hat j hjl, hj]
    obtain ⟨l, hlen, hl2⟩ := list_of len each
    refine ⟨some a, cap, l, by rw [hlen]; exact hcs, by simp, by omega, ?_, ?_⟩
    · intro j c hj
      obtain ⟨i, k, x, rfl, hk, hx⟩ := K.cells_at hj
      exact (hl2 i x hk).2 k c hx
    · intro x hx
      obtain ⟨i, hi, e⟩ := List.mem_iff_getElem.1 hx
      exact (hl2 i x (by rw [List.getElem?_eq_getElem hi, e])).1
end
end Go.Proofs.YthimamnblklkbaaDoor

namespace Go.Proofs.YthimamnblklkbaaDoor
open Go.ChangeShapes Go.WideShapes Go.ChangeAt Go.RowKit Go.Deep

def fieldsAt (P : Program) (t : TypeId) : Option (List (Nat × Nat)) := match P.underlying t with
  | some (.struct fs) => some (fs.toList.map fun f => (f.type, f.offset))
  | _ => none
theorem laid_least {W : World} (h : laidMetH Tryd.prog Rows.classWindowRow.laid W) : CellsAt (some ⟨1, 0, none⟩) [.int .i64 1, .int .i64 2, .int .i64 2] W := by
  rw [MakeChecks.laidMetH_plain _ _ _ (by kernel_rfl)] at h
  have hg : Tryd.prog.globalNamed "grommet/layout.least" = some 1 := by kernel_rfl
  have hty : (Tryd.prog.globals[1]?).map (·.type) = some 63 := by kernel_rfl
  have hf : fieldsAt Tryd.prog 63 = some [(3, 0), (3, 1), (3, 2)] := by kernel_rfl
  have hc1 : Tryd.prog.cellsOf 3 = 1 := by kernel_rfl
  obtain ⟨ps, ⟨g', t', cs, fuel, p, q, hg', ht', hvar, hd, _, _⟩, _⟩ := h
  obtain rfl := Option.some.inj (hg.symm.trans hg')
  obtain rfl := Option.some.inj (hty.symm.trans ht')
  unfold fieldsAt at hf
  split at hf
  · rename_i fs hu
    have hf := Option.some.inj hf
    obtain ⟨f0, r0, e0, h0, hf⟩ := List.map_eq_cons_iff.1 hf
    obtain ⟨f1, r1, e1, h1, hf⟩ := List.map_eq_cons_iff.1 hf
    obtain ⟨f2, r2, e2, h2, hf⟩ := List.map_eq_cons_iff.1 hf
    obtain rfl := List.map_eq_nil_iff.1 hf
    subst e1 e2
    simp only [Prod.mk.injEq] at h0 h1 h2
    cases fuel with
    | zero => simp [DataW.trod] at hd
    | succ fuel =>
      simp only [DataW.trod, hu] at hd
      split at hd
      · rename_i hl
        obtain ⟨xs, hm, hx⟩ := Option.map_eq_some_iff.1 hd
        rw [e0] at hm
        simp only [List.mapM_cons, List.mapM_nil, Option.bind_eq_bind, Option.bind_eq_some_iff, Option.pure_def, Option.some.injEq, h0.1, h0.2, h1.1, h1.2, h2.1, h2.2, hc1] at hm
        obtain ⟨b0, hb0, s0, ⟨b1, hb1, s1, ⟨b2, hb2, s2, rfl, rfl⟩, rfl⟩, rfl⟩ := hm
        obtain ⟨z0, c0, rfl, _⟩ := DataW.trod_int Tryd.underlying3 hb0
        obtain ⟨z1, c1, rfl, _⟩ := DataW.trod_int Tryd.underlying3 hb1
        obtain ⟨z2, c2, rfl, _⟩ := DataW.trod_int Tryd.underlying3 hb2
        have hz := congrArg Prod.fst hx
        simp only [List.map_cons, List.map_nil, Rows.laid_grommet_layout_least, DataW.agg.injEq, List.cons.injEq, DataW.lit.injEq, Lit.int.injEq, true_and, and_true] at hz
        obtain ⟨rfl, rfl, rfl⟩ := hz
        have k0 : cs[0]? = some (.int .i64 1) := by have := congrArg (·[0]?) c0; simpa [List.getElem?_take, List.getElem?_drop] using this
        have k1 : cs[1]? = some (.int .i64 2) := by have := congrArg (·[0]?) c1; simpa [List.getElem?_take, List.getElem?_drop] using this
        have k2 : cs[2]? = some (.int .i64 2) := by have := congrArg (·[0]?) c2; simpa [List.getElem?_take, List.getElem?_drop] using this
        intro j v hj
        have e : Addr.add ⟨1, 0, none⟩ j = ⟨1, j, none⟩ := by unfold Addr.add; split <;> simp_all
        rw [e, World.var?_cell hg hvar j]
        match j, hj with
        | 0, hj => rw [k0]; exact hj
        | 1, hj => rw [k1]; exact hj
        | 2, hj => rw [k2]; exact hj
        | j + 3, hj => simp at hj
      · cases hd
  · cases hf
theorem least_met (os : Os) (args : Array Value) : laidMetH Tryd.prog Rows.classWindowRow.laid ((World.doorLaid Tryd.prog 400 os).forCall (fun _ _ => 0) ⟨#[], args, []⟩).memory :=
  laidMetH_of_parts3 (fuel := 8) (laidMet_of_run' 8 (by kernel_rfl) (by kernel_rfl)) (by kernel_rfl) (by kernel_rfl)
end Go.Proofs.YthimamnblklkbaaDoor

namespace Go.Proofs.YthimamnblklkbaaDoor
open Go Go.RowKit

section
variable {M : Bool} {P : Program} {ops : Array Oper} {i : Nat} {s : Fs} {w w' : World} {K : Fs → World → Prop}

def mkQ (P : Program) (ops : Array Oper) (i : Nat) (s : Fs) : Option (TypeId × Int × Int × Nat × Nat × List Value) :=
  match opQ ops i s with
  | some o => match o.op with
    | .makeSlice t x y => match P.underlying t, evS s x, evS s y with
      | some (.slice e), .int _ l, .int _ c => match P.info? e with
        | some f => match f.zero with
          | some z => some (e, l, c, f.size, f.bytes, z.cells.toList)
          | none => none
        | none => none
      | _, _, _ => none
    | _ => none
  | none => none

theorem flatMap_replicate {α : Type} (n : Nat) (d : α) (f : α → List Value) : (List.replicate n d).flatMap f = (List.replicate n (f d)).flatten := by
  induction n with
  | zero => rfl
  | succ n ih => simp [List.replicate_succ, ih]

theorem made_list (zs : Array Value) (hz : 0 < zs.size) : ∀ n : Nat, (madeCells zs (n * zs.size)).toList = (List.replicate n zs.toList).flatten := by
  intro n
  refine List.ext_getElem ?_ fun j h1 h2 => ?_
  · simp [madeCells]
  · have hj : j < n * zs.size := by simpa [madeCells] using h1
    have hi : j / zs.size < n := Nat.div_lt_of_lt_mul (by rw [Nat.mul_comm]; exact hj)
    have hm : j % zs.size < zs.size := Nat.mod_lt _ hz
    simp only [madeCells, Array.getElem_toList, Array.getElem_map, Array.getElem_range]
    clear h1
    induction n generalizing j with
    | zero => simp at hj
    | succ n ih =>
      simp only [List.replicate_succ, List.flatten_cons]
      by_cases hlt : j < zs.size
      · rw [List.getElem_append_left (by simpa using hlt), Nat.mod_eq_of_lt hlt]
        simp [hlt]
      · rw [List.getElem_append_right (by simpa using hlt)]
        have e1 : (j - zs.toList.length) % zs.size = j % zs.size := by
          rw [Array.length_toList, ← Nat.mod_eq_sub_mod (by omega)]
        have hj' : j - zs.toList.length < n * zs.size := by rw [Array.length_toList]; rw [Nat.add_mul] at hj; omega
        have h := ih (j - zs.toList.length) (by simpa using hj') hj' (Nat.div_lt_of_lt_mul (by rw [Nat.mul_comm]; exact hj')) (Nat.mod_lt _ hz)
        rw [← h, e1]

theorem ops_makeSlice {α : Type} (Kd : Kind α) (d : α) {B : Nat} {w0 : World} {l0 : List Nat} {R : List Asn} {z : Int} (n : Nat) {bytes : Nat} (hz : z = (n : Int)) (hs : St B w0 l0 w R)
    (hq : mkQ P ops i s = some (Kd.e, z, z, Kd.size, bytes, Kd.elem d)) (hb : bytes * n ≤ 281474976710656) (hm : n ≤ maxLen)
    (hk : ∀ b w', St B w0 l0 w' (Kd.row (some ⟨b, 0, none⟩) n (List.replicate n d) :: R) → OpsAt M P ops (i + 1) (putS s (dstOf ops i) (.slice (some ⟨b, 0, none⟩) n n)) w' K) : OpsAt M P ops i s w K := by
  subst hz
  unfold mkQ at hq
  split at hq
  · rename_i o ho
    split at hq
    · rename_i t x y hop
      split at hq
      · rename_i e q1 l q2 c hu hx hy
        split at hq
        · rename_i f hi
          split at hq
          · rename_i zz hzz
            simp only [Option.some.injEq, Prod.mk.injEq] at hq
            obtain ⟨rfl, rfl, rfl, hsz, rfl, hcs⟩ := hq
            have hB := hs.size
            obtain ⟨w', hr, hown, hgr⟩ := run_make_full (P := P) w B t Kd.e f zz Kd.size hu hi hzz hsz q1 q2 n hb hm hB
            have hzs : zz.cells.size = Kd.size := by rw [← Array.length_toList, hcs, Kd.elen]
            have hlist : (madeCells zz.cells (n * Kd.size)).toList = Kd.cells (List.replicate n d) := by
              rw [← hzs, made_list _ (by rw [hzs]; exact Kd.pos), hcs]
              exact (flatMap_replicate n d Kd.elem).symm
            rw [hlist] at hown
            refine ops_runs ho (v := .slice (some ⟨w.heap.size, 0, none⟩) n n) (w' := w') ?_ (hk _ _ ?_)
            · simp only [execOp, hop, hx, hy, Sem.run_bind, Result.andThen_ok, Sem.run_pure, hr]
            · refine St.step0 (post := [Kd.row (some ⟨w.heap.size, 0, none⟩) n (List.replicate n d)]) hs ⟨[w.heap.size], ⟨[w.heap.size], [], ⟨?_, rfl⟩, fun b => by simp, fun b _ => by simp, by simp⟩, ?_⟩
              · simpa using hown
              · refine ⟨hgr.os, hgr.tape, hgr.output, hgr.size, fun b hb _ => hgr.block b hb (by simp), fun b hb => .inr ?_⟩
                simp only [List.mem_singleton] at hb
                subst hb
                exact Nat.le_refl _
          · cases hq
        · cases hq
      · cases hq
    · cases hq
  · cases hq
end
end Go.Proofs.YthimamnblklkbaaDoor

namespace Go.Proofs.YthimamnblklkbaaDoor
open Go Go.RowKit

def May (gw gi gb : Int) : Prop := (1 ≤ gw ∧ gw ≤ 4) ∧ (2 ≤ gi ∧ gi ≤ 64) ∧ (2 ≤ gb ∧ gb ≤ 512)
instance (gw gi gb : Int) : Decidable (May gw gi gb) := by unfold May; exact inferInstance
theorem may_out {gw gi gb : Int} (h : May gw gi gb) : (1 ≤ gw ∧ gw ≤ 4) ∧ (2 ≤ gi ∧ gi ≤ 64) ∧ (2 ≤ gb ∧ gb ≤ 512) := h
def placeOf (k : Nat) (gw gi gb n : Int) : Int :=
  if May gw gi gb then
    match k with
    | 2 => if 0 ≤ n ∧ n < 4 then 8 + 64 * n else -1
    | 6 => if 0 ≤ n ∧ n < 1 then 264 + 208 * gw + 8 * n else -1
    | 7 => if 0 ≤ n ∧ n < 1 then 272 + 208 * gw + 8 * n else -1
    | 8 => if 0 ≤ n ∧ n < gi then 280 + 208 * gw + 16 * n else -1
    | 9 => if 0 ≤ n ∧ n < gb then 280 + 208 * gw + 16 * gi + 8 * n else -1
    | _ => -1
  else -1
def wordsOf (gw gi gb : Int) : Int := if May gw gi gb then 280 + 208 * gw + 16 * gi + 8 * gb else 0
def fmtW (gw gi gb : Int) : List Int :=
  if May gw gi gb then
    ((((((((List.replicate (wordsOf gw gi gb).toNat 0).set 0 32762617960297063).set 1 gw).set 2 gi).set 3 gb).set (placeOf 6 gw gi gb 0).toNat 3).set (placeOf 7 gw gi gb 0).toNat 1).set (placeOf 8 gw gi gb 1).toNat 2).set (placeOf 8 gw gi gb 1 + 1).toNat 1
  else []
theorem fmtW_len (gw gi gb : Int) : (fmtW gw gi gb).length = (wordsOf gw gi gb).toNat := by
  unfold fmtW
  split
  · simp only [List.length_set, List.length_replicate]
  · rename_i h; simp [wordsOf, h]
theorem words_may {gw gi gb : Int} (h : May gw gi gb) : wordsOf gw gi gb = 280 + 208 * gw + 16 * gi + 8 * gb := by simp only [wordsOf, if_pos h]
theorem place6 {gw gi gb : Int} (h : May gw gi gb) : placeOf 6 gw gi gb 0 = 264 + 208 * gw := by simp [placeOf, h]
theorem place7 {gw gi gb : Int} (h : May gw gi gb) : placeOf 7 gw gi gb 0 = 272 + 208 * gw := by simp [placeOf, h]
theorem place8_in {gw gi gb n : Int} (h : May gw gi gb) (hn : 0 ≤ n ∧ n < gi) : placeOf 8 gw gi gb n = 280 + 208 * gw + 16 * n := by simp [placeOf, h, hn]
def mx (x y : Int) : Int := if y > x then y else x
def mn (x y : Int) : Int := if y < x then y else x
structure Nd where
  k : Int
  l : Int
  o : Int
  s : Int
  a : Int
  b : Int
  c : Int
  d : Int
  e : Int
  m : Int
def Nd.zero : Nd := ⟨0, 0, 0, 0, 0, 0, 0, 0, 0, 0⟩
def RightP (gw gi gb : Int) (x : Nd) : Prop :=
  May gw gi gb ∧ (x.a < gb ∧ x.b < gb ∧ x.c < gb ∧ x.d < gb ∧ x.e < gb ∧ x.m < gi) ∧ (x.l ≤ 65536 ∧ x.o ≤ 16 ∧ x.s ≤ 768) ∧ ((x.k = 1 ∧ x.m = 0) ∨ (x.k = 2 ∧ x.s = 0))
instance (gw gi gb : Int) (x : Nd) : Decidable (RightP gw gi gb x) := by unfold RightP; exact inferInstance

def vwrite (img : List Int) (l : List (Int × Int)) (at_ x : Int) : Int × List (Int × Int) :=
  if at_ < 0 ∨ at_ ≥ img.length then (8, l) else if vget img l at_ = x then (0, l) else vput img l at_ x
def vwrites (img : List Int) (at_ : Int) : List (Int × Int) → Int → List Int → Int × List (Int × Int)
  | l, _, [] => (0, l)
  | l, i, x :: xs => if (vwrite img l (at_ + i) x).1 = 0 then vwrites img at_ (vwrite img l (at_ + i) x).2 (i + 1) xs else vwrite img l (at_ + i) x
theorem vwrites_step {img : List Int} {at_ : Int} {m : List (Int × Int)} {ws : List Int} {k : Nat} (hk : k < ws.length) :
    vwrites img at_ m (k : Int) (ws.drop k) = if (vwrite img m (at_ + (k : Int)) (ws.getD k 0)).1 = 0 then vwrites img at_ (vwrite img m (at_ + (k : Int)) (ws.getD k 0)).2 ((k + 1 : Nat) : Int) (ws.drop (k + 1)) else vwrite img m (at_ + (k : Int)) (ws.getD k 0) := by
  have e : ws.drop k = ws.getD k 0 :: ws.drop (k + 1) := by
    rw [List.drop_eq_getElem_cons hk]
    simp [hk]
  rw [e]
  rfl
end Go.Proofs.YthimamnblklkbaaDoor

set_option maxRecDepth 20000
namespace Go.Proofs.YthimamnblklkbaaDoor
open Go Go.RowKit
set_option linter.unusedSimpArgs false
set_option linter.unusedVariables false

theorem within_spec {n_ f_ t_ : Int} (B : Nat) (w : World) : Spec Tryd.prog 151 #[(.int .i64 n_), (.int .i64 f_), (.int .i64 t_)] B w [] (fun v H' => v = .bool (decide (f_ ≤ n_ ∧ n_ ≤ t_)) ∧ H' = []) := by
 refine spec_Q Tryd.func151 rfl fun hs => ?_
 refine W.sr fun K1 hK1 => ?_
 refine zE 1 (hK1 _ _ ?_)
 refine W.sr fun K2 hK2 => ?_
 refine zR 4 ?_
 rcases Bool.eq_false_or_eq_true (decide (n_ ≥ f_)) with h3 | h3
 ·
  have h3p := of_decide_eq_true h3
  refine zS 10 h3 ?_
  refine zS 9 h3 ?_
  refine zE 5 (hK2 _ _ ?_)
  refine W.ret ?_
  refine ret_of (.bool (decide (n_ ≤ t_))) (by kernel_rfl) ⟨_, ⟨congrArg Value.bool (decide_eq_decide.2 (by omega)), rfl⟩, hs⟩
 ·
  have h3p := of_decide_eq_false h3
  refine zS 10 h3 ?_
  refine zS 9 h3 ?_
  refine zE 5 (hK2 _ _ ?_)
  refine W.ret ?_
  refine ret_of (.bool false) (by kernel_rfl) ⟨_, ⟨congrArg Value.bool (decide_eq_false (by omega)).symm, rfl⟩, hs⟩

theorem may_spec {gw gi gb : Int} (B : Nat) (w : World) : Spec Tryd.prog 121 #[(.agg #[(.int .i64 gw), (.int .i64 gi), (.int .i64 gb)])] B w [] (fun v H' => v = .bool (decide (May gw gi gb)) ∧ H' = []) := by
 refine spec_Q Tryd.func121 rfl fun hs => ?_
 refine W.sr fun K1 hK1 => ?_
 refine zN [(.int .i64 gw), (.int .i64 gi), (.int .i64 gb)] 63 hs fun b4 w2 hs3 => ?_
 refine zE 1 (hK1 _ _ ?_)
 refine W.sr fun K5 hK5 => ?_
 refine zR 1 ?_
 refine zL ⟨b4, 0, none⟩ (.int .i64 gw) (hs3.cellAt 0 rfl rfl) ?_
 refine zC00 hs3 (within_spec (n_ := gw) (f_ := 1) (t_ := 4) B _) fun w6 hs8 => ?_
 refine zR 1 ?_
 rcases Bool.eq_false_or_eq_true (decide (1 ≤ gw ∧ gw ≤ 4)) with h9 | h9
 ·
  have h9p := of_decide_eq_true h9
  refine zS 6 h9 ?_
  refine zS 5 h9 ?_
  refine zR 1 ?_
  refine zL ⟨b4, 1, none⟩ (.int .i64 gi) (hs8.cellAt 0 rfl rfl) ?_
  refine zC00 hs8 (within_spec (n_ := gi) (f_ := 2) (t_ := 64) B _) fun w10 hs12 => ?_
  refine zR 2 ?_
  rcases Bool.eq_false_or_eq_true (decide (2 ≤ gi ∧ gi ≤ 64)) with h13 | h13
  ·
   have h13p := of_decide_eq_true h13
   refine zS 11 h13 ?_
   refine zS 9 h13 ?_
   refine zS 10 h13 ?_
   refine zR 1 ?_
   refine zL ⟨b4, 2, none⟩ (.int .i64 gb) (hs12.cellAt 0 rfl rfl) ?_
   refine zC00 hs12 (within_spec (n_ := gb) (f_ := 2) (t_ := 512) B _) fun w14 hs16 => ?_
   refine zE 2 (hK5 _ _ ?_)
   refine W.ret ?_
   have hs17 := St.tk0 hs16
   refine ret_of (.bool (decide (2 ≤ gb ∧ gb ≤ 512))) (by kernel_rfl) ⟨_, ⟨congrArg Value.bool (decide_eq_decide.2 (by unfold May; omega)), rfl⟩, hs17⟩
  ·
   have h13p := of_decide_eq_false h13
   refine zS 11 h13 ?_
   refine zS 9 h13 ?_
   refine zS 10 h13 ?_
   refine zE 5 (hK5 _ _ ?_)
   refine W.ret ?_
   have hs18 := St.tk0 hs12
   refine ret_of (.bool false) (by kernel_rfl) ⟨_, ⟨congrArg Value.bool (decide_eq_false (by unfold May; omega)).symm, rfl⟩, hs18⟩
 ·
  have h9p := of_decide_eq_false h9
  refine zS 6 h9 ?_
  refine zS 5 h9 ?_
  refine zE 10 (hK5 _ _ ?_)
  refine W.ret ?_
  have hs19 := St.tk0 hs8
  refine ret_of (.bool false) (by kernel_rfl) ⟨_, ⟨congrArg Value.bool (decide_eq_false (by unfold May; omega)).symm, rfl⟩, hs19⟩

theorem rmay_spec {gw gi gb : Int} (B : Nat) (w : World) : Spec Tryd.prog 115 #[(.agg #[(.int .i64 gw), (.int .i64 gi), (.int .i64 gb)])] B w [] (fun v H' => v = .bool (decide (May gw gi gb)) ∧ H' = []) := by
 refine spec_Q Tryd.func115 rfl fun hs => ?_
 refine W.sr fun K1 hK1 => ?_
 refine zN [(.int .i64 gw), (.int .i64 gi), (.int .i64 gb)] 88 hs fun b4 w2 hs3 => ?_
 refine zE 1 (hK1 _ _ ?_)
 refine W.sr fun K5 hK5 => ?_
 refine zR 1 ?_
 refine zL ⟨b4, 0, none⟩ (.int .i64 gw) (hs3.cellAt 0 rfl rfl) ?_
 refine zR 2 ?_
 rcases Bool.eq_false_or_eq_true (decide (gw ≥ 1)) with h6 | h6
 ·
  have h6p := of_decide_eq_true h6
  refine zS 6 h6 ?_
  refine zS 5 h6 ?_
  refine zR 1 ?_
  refine zL ⟨b4, 0, none⟩ (.int .i64 gw) (hs3.cellAt 0 rfl rfl) ?_
  refine zR 3 ?_
  rcases Bool.eq_false_or_eq_true (decide (gw ≤ 4)) with h7 | h7
  ·
   have h7p := of_decide_eq_true h7
   refine zS 11 h7 ?_
   refine zS 9 h7 ?_
   refine zS 10 h7 ?_
   refine zR 1 ?_
   refine zL ⟨b4, 1, none⟩ (.int .i64 gi) (hs3.cellAt 0 rfl rfl) ?_
   refine zR 3 ?_
   rcases Bool.eq_false_or_eq_true (decide (gi ≥ 2)) with h8 | h8
   ·
    have h8p := of_decide_eq_true h8
    refine zS 16 h8 ?_
    refine zS 14 h8 ?_
    refine zS 15 h8 ?_
    refine zR 1 ?_
    refine zL ⟨b4, 1, none⟩ (.int .i64 gi) (hs3.cellAt 0 rfl rfl) ?_
    refine zR 3 ?_
    rcases Bool.eq_false_or_eq_true (decide (gi ≤ 64)) with h9 | h9
    ·
     have h9p := of_decide_eq_true h9
     refine zS 21 h9 ?_
     refine zS 19 h9 ?_
     refine zS 20 h9 ?_
     refine zR 1 ?_
     refine zL ⟨b4, 2, none⟩ (.int .i64 gb) (hs3.cellAt 0 rfl rfl) ?_
     refine zR 3 ?_
     rcases Bool.eq_false_or_eq_true (decide (gb ≥ 2)) with h10 | h10
     ·
      have h10p := of_decide_eq_true h10
      refine zS 26 h10 ?_
      refine zS 24 h10 ?_
      refine zS 25 h10 ?_
      refine zR 1 ?_
      refine zL ⟨b4, 2, none⟩ (.int .i64 gb) (hs3.cellAt 0 rfl rfl) ?_
      refine zE 3 (hK5 _ _ ?_)
      refine W.ret ?_
      have hs11 := St.tk0 hs3
      refine ret_of (.bool (decide (gb ≤ 512))) (by kernel_rfl) ⟨_, ⟨congrArg Value.bool (decide_eq_decide.2 (by unfold May; omega)), rfl⟩, hs11⟩
     ·
      have h10p := of_decide_eq_false h10
      refine zS 26 h10 ?_
      refine zS 24 h10 ?_
      refine zS 25 h10 ?_
      refine zE 5 (hK5 _ _ ?_)
      refine W.ret ?_
      have hs12 := St.tk0 hs3
      refine ret_of (.bool false) (by kernel_rfl) ⟨_, ⟨congrArg Value.bool (decide_eq_false (by unfold May; omega)).symm, rfl⟩, hs12⟩
    ·
     have h9p := of_decide_eq_false h9
     refine zS 21 h9 ?_
     refine zS 19 h9 ?_
     refine zS 20 h9 ?_
     refine zE 10 (hK5 _ _ ?_)
     refine W.ret ?_
     have hs13 := St.tk0 hs3
     refine ret_of (.bool false) (by kernel_rfl) ⟨_, ⟨congrArg Value.bool (decide_eq_false (by unfold May; omega)).symm, rfl⟩, hs13⟩
   ·
    have h8p := of_decide_eq_false h8
    refine zS 16 h8 ?_
    refine zS 14 h8 ?_
    refine zS 15 h8 ?_
    refine zE 15 (hK5 _ _ ?_)
    refine W.ret ?_
    have hs14 := St.tk0 hs3
    refine ret_of (.bool false) (by kernel_rfl) ⟨_, ⟨congrArg Value.bool (decide_eq_false (by unfold May; omega)).symm, rfl⟩, hs14⟩
  ·
   have h7p := of_decide_eq_false h7
   refine zS 11 h7 ?_
   refine zS 9 h7 ?_
   refine zS 10 h7 ?_
   refine zE 20 (hK5 _ _ ?_)
   refine W.ret ?_
   have hs15 := St.tk0 hs3
   refine ret_of (.bool false) (by kernel_rfl) ⟨_, ⟨congrArg Value.bool (decide_eq_false (by unfold May; omega)).symm, rfl⟩, hs15⟩
 ·
  have h6p := of_decide_eq_false h6
  refine zS 6 h6 ?_
  refine zS 5 h6 ?_
  refine zE 25 (hK5 _ _ ?_)
  refine W.ret ?_
  have hs16 := St.tk0 hs3
  refine ret_of (.bool false) (by kernel_rfl) ⟨_, ⟨congrArg Value.bool (decide_eq_false (by unfold May; omega)).symm, rfl⟩, hs16⟩

end Go.Proofs.YthimamnblklkbaaDoor

set_option maxRecDepth 20000
namespace Go.Proofs.YthimamnblklkbaaDoor
open Go Go.RowKit
set_option linter.unusedSimpArgs false
set_option linter.unusedVariables false

theorem rows_spec {gw gi gb : Int} (B : Nat) (w : World) : Spec Tryd.prog 133 #[(.agg #[(.int .i64 gw), (.int .i64 gi), (.int .i64 gb)])] B w [] (fun v H' => v = (.agg #[(.int .u8 1), (.int .i64 8), (.int .i64 1), (.int .u8 2), (.int .i64 64), (.int .i64 4), (.int .u8 5), (.int .i64 208), (.int .i64 gw), (.int .u8 6), (.int .i64 8), (.int .i64 1), (.int .u8 7), (.int .i64 8), (.int .i64 1), (.int .u8 8), (.int .i64 16), (.int .i64 gi), (.int .u8 9), (.int .i64 8), (.int .i64 gb)]) ∧ H' = []) := by
 refine spec_Q Tryd.func133 rfl fun hs => ?_
 refine W.sr fun K1 hK1 => ?_
 refine zN [(.int .i64 gw), (.int .i64 gi), (.int .i64 gb)] 63 hs fun b4 w2 hs3 => ?_
 refine zN [(.int .u8 0), (.int .i64 0), (.int .i64 0), (.int .u8 0), (.int .i64 0), (.int .i64 0), (.int .u8 0), (.int .i64 0), (.int .i64 0), (.int .u8 0), (.int .i64 0), (.int .i64 0), (.int .u8 0), (.int .i64 0), (.int .i64 0), (.int .u8 0), (.int .i64 0), (.int .i64 0), (.int .u8 0), (.int .i64 0), (.int .i64 0)] 197 hs3 fun b7 w5 hs6 => ?_
 refine zD (hK1 _ _ ?_)
 refine W.sr fun K8 hK8 => ?_
 refine zR 3 ?_
 refine zL ⟨b4, 0, none⟩ (.int .i64 gw) (hs6.cellAt 1 rfl rfl) ?_
 refine zR 4 ?_
 refine zL ⟨b4, 1, none⟩ (.int .i64 gi) (hs6.cellAt 1 rfl rfl) ?_
 refine zR 2 ?_
 refine zL ⟨b4, 2, none⟩ (.int .i64 gb) (hs6.cellAt 1 rfl rfl) ?_
 refine zR 2 ?_
 refine ops_store (off := 0) (cs := [(.int .u8 0), (.int .i64 0), (.int .i64 0), (.int .u8 0), (.int .i64 0), (.int .i64 0), (.int .u8 0), (.int .i64 0), (.int .i64 0), (.int .u8 0), (.int .i64 0), (.int .i64 0), (.int .u8 0), (.int .i64 0), (.int .i64 0), (.int .u8 0), (.int .i64 0), (.int .i64 0), (.int .u8 0), (.int .i64 0), (.int .i64 0)]) (vs := [(.int .u8 1), (.int .i64 8), (.int .i64 1), (.int .u8 2), (.int .i64 64), (.int .i64 4), (.int .u8 5), (.int .i64 208), (.int .i64 gw), (.int .u8 6), (.int .i64 8), (.int .i64 1), (.int .u8 7), (.int .i64 8), (.int .i64 1), (.int .u8 8), (.int .i64 16), (.int .i64 gi), (.int .u8 9), (.int .i64 8), (.int .i64 gb)]) hs6 (by kernel_rfl) (by simp) rfl (fun w9 hs10 => ?_)
 have hs11 : St B w [] w9 [blk b7 (.cells [(.int .u8 1), (.int .i64 8), (.int .i64 1), (.int .u8 2), (.int .i64 64), (.int .i64 4), (.int .u8 5), (.int .i64 208), (.int .i64 gw), (.int .u8 6), (.int .i64 8), (.int .i64 1), (.int .u8 7), (.int .i64 8), (.int .i64 1), (.int .u8 8), (.int .i64 16), (.int .i64 gi), (.int .u8 9), (.int .i64 8), (.int .i64 gb)].toArray 197 (0, 0)), blk b4 (.cells [(.int .i64 gw), (.int .i64 gi), (.int .i64 gb)].toArray 63 (0, 0))] := hs10
 refine zD (hK8 _ _ ?_)
 refine W.ret ?_
 have hs12 := St.tk0 hs11
 refine ret_of (.agg #[(.int .u8 1), (.int .i64 8), (.int .i64 1), (.int .u8 2), (.int .i64 64), (.int .i64 4), (.int .u8 5), (.int .i64 208), (.int .i64 gw), (.int .u8 6), (.int .i64 8), (.int .i64 1), (.int .u8 7), (.int .i64 8), (.int .i64 1), (.int .u8 8), (.int .i64 16), (.int .i64 gi), (.int .u8 9), (.int .i64 8), (.int .i64 gb)]) (results_cell (ad := ⟨b7, 0, none⟩) (cs := [(.int .u8 1), (.int .i64 8), (.int .i64 1), (.int .u8 2), (.int .i64 64), (.int .i64 4), (.int .u8 5), (.int .i64 208), (.int .i64 gw), (.int .u8 6), (.int .i64 8), (.int .i64 1), (.int .u8 7), (.int .i64 8), (.int .i64 1), (.int .u8 8), (.int .i64 16), (.int .i64 gi), (.int .u8 9), (.int .i64 8), (.int .i64 gb)]) rfl (by kernel_rfl) (by kernel_rfl) (cells_sub (hs11.heapAt 0 rfl) rfl)) ⟨_, ⟨rfl, rfl⟩, hs12⟩

theorem place2_may {gw gi gb n_ : Int} (B : Nat) (w : World) (hm : May gw gi gb) : Spec Tryd.prog 134 #[(.agg #[(.int .i64 gw), (.int .i64 gi), (.int .i64 gb)]), (.int .u8 2), (.int .i64 n_)] B w [] (fun v H' => v = .int .i64 (placeOf 2 gw gi gb n_) ∧ H' = []) := by
 refine spec_Q Tryd.func134 rfl fun hs => ?_
 have hm_ : (1 ≤ gw ∧ gw ≤ 4) ∧ (2 ≤ gi ∧ gi ≤ 64) ∧ (2 ≤ gb ∧ gb ≤ 512) := hm
 refine W.sr fun K1 hK1 => ?_
 refine zN [(.int .i64 gw), (.int .i64 gi), (.int .i64 gb)] 63 hs fun b4 w2 hs3 => ?_
 refine zE 1 (hK1 _ _ ?_)
 refine W.sr fun K5 hK5 => ?_
 refine zE 1 (hK5 _ _ ?_)
 refine W.seq fun K6 hK6 => ?_
 refine W.sr fun K7 hK7 => ?_
 refine ops_R (runs_loadAgg (ad := ⟨b4, 0, none⟩) (cs := [(.int .i64 gw), (.int .i64 gi), (.int .i64 gb)]) (by kernel_rfl) (cells_sub (hs3.heapAt 0 rfl) rfl)) ?_
 refine zC00 hs3 (rows_spec (gw := gw) (gi := gi) (gb := gb) B _) fun w8 hs10 => ?_
 refine zE 1 (hK7 _ _ ?_)
 refine W.block ?_
 refine W.loop_start ?_
 refine loopAt_round ?_
 refine W.sr fun K11 hK11 => ?_
 refine zE 1 (hK11 _ _ ?_)
 refine W.seq fun K12 hK12 => ?_
 refine W.cond_true true (by kernel_rfl) rfl ?_
 refine W.skip ?_
 refine hK12 _ _ ?_
 refine W.seq fun K13 hK13 => ?_
 refine W.block ?_
 refine W.sr fun K14 hK14 => ?_
 refine zR 1 ?_
 refine zN [(.int .u8 0), (.int .i64 0), (.int .i64 0)] 196 hs10 fun b17 w15 hs16 => ?_
 refine ops_store (off := 0) (cs := [(.int .u8 0), (.int .i64 0), (.int .i64 0)]) (vs := [(.int .u8 1), (.int .i64 8), (.int .i64 1)]) hs16 (by kernel_rfl) (by simp) rfl (fun w18 hs19 => ?_)
 have hs20 : St B w [] w18 [blk b17 (.cells [(.int .u8 1), (.int .i64 8), (.int .i64 1)].toArray 196 (0, 0)), blk b4 (.cells [(.int .i64 gw), (.int .i64 gi), (.int .i64 gb)].toArray 63 (0, 0))] := hs19
 refine zD (hK14 _ _ ?_)
 refine W.seq fun K21 hK21 => ?_
 refine W.sr fun K22 hK22 => ?_
 refine zR 1 ?_
 refine zL ⟨b17, 0, none⟩ (.int .u8 1) (hs20.cellAt 0 rfl rfl) ?_
 refine zE 2 (hK22 _ _ ?_)
 refine W.cond_true true (by kernel_rfl) rfl ?_
 refine W.sr fun K23 hK23 => ?_
 refine zR 2 ?_
 refine zL ⟨b17, 1, none⟩ (.int .i64 8) (hs20.cellAt 0 rfl rfl) ?_
 refine zR 1 ?_
 refine zL ⟨b17, 2, none⟩ (.int .i64 1) (hs20.cellAt 0 rfl rfl) ?_
 refine zE 3 (hK23 _ _ ?_)
 refine W.exit (exit_seq (exit_here ?_))
 refine hK13 _ _ ?_
 refine W.region ?_
 refine zE 2 ?_
 refine loopAt_next ?_
 refine loopAt_round ?_
 refine W.sr fun K24 hK24 => ?_
 refine zE 1 (hK24 _ _ ?_)
 refine W.seq fun K25 hK25 => ?_
 refine W.cond_true true (by kernel_rfl) rfl ?_
 refine W.skip ?_
 refine hK25 _ _ ?_
 refine W.seq fun K26 hK26 => ?_
 refine W.block ?_
 refine W.sr fun K27 hK27 => ?_
 refine zR 1 ?_
 refine zN [(.int .u8 0), (.int .i64 0), (.int .i64 0)] 196 hs20 fun b30 w28 hs29 => ?_
 refine ops_store (off := 0) (cs := [(.int .u8 0), (.int .i64 0), (.int .i64 0)]) (vs := [(.int .u8 2), (.int .i64 64), (.int .i64 4)]) hs29 (by kernel_rfl) (by simp) rfl (fun w31 hs32 => ?_)
 have hs33 : St B w [] w31 [blk b30 (.cells [(.int .u8 2), (.int .i64 64), (.int .i64 4)].toArray 196 (0, 0)), blk b17 (.cells [(.int .u8 1), (.int .i64 8), (.int .i64 1)].toArray 196 (0, 0)), blk b4 (.cells [(.int .i64 gw), (.int .i64 gi), (.int .i64 gb)].toArray 63 (0, 0))] := hs32
 refine zD (hK27 _ _ ?_)
 refine W.seq fun K34 hK34 => ?_
 refine W.sr fun K35 hK35 => ?_
 refine zR 1 ?_
 refine zL ⟨b30, 0, none⟩ (.int .u8 2) (hs33.cellAt 0 rfl rfl) ?_
 refine zE 2 (hK35 _ _ ?_)
 refine W.cond_false false (by kernel_rfl) rfl ?_
 refine W.skip ?_
 refine hK34 _ _ ?_
 refine W.seq fun K36 hK36 => ?_
 refine W.sr fun K37 hK37 => ?_
 refine ops_R (runs_loadAgg (ad := ⟨b4, 0, none⟩) (cs := [(.int .i64 gw), (.int .i64 gi), (.int .i64 gb)]) (by kernel_rfl) (cells_sub (hs33.heapAt 2 rfl) rfl)) ?_
 refine zC00 hs33 (may_spec (gw := gw) (gi := gi) (gb := gb) B _) fun w38 hs40 => ?_
 refine zR 1 ?_
 rcases Bool.eq_false_or_eq_true (decide (May gw gi gb)) with h41 | h41
 ·
  have h41p := of_decide_eq_true h41
  refine zS 28 h41 ?_
  refine zS 27 h41 ?_
  refine zR 2 ?_
  refine zL ⟨b30, 2, none⟩ (.int .i64 4) (hs40.cellAt 0 rfl rfl) ?_
  refine zR 1 ?_
  refine zC00 hs40 (within_spec (n_ := n_) (f_ := 0) (t_ := 3) B _) fun w42 hs44 => ?_
  refine zE 1 (hK37 _ _ ?_)
  refine W.cond (decide (0 ≤ n_ ∧ n_ ≤ 3)) (by kernel_rfl) (fun h45 => ?_) (fun h45 => ?_)
  ·
   have h45p := of_decide_eq_true h45
   refine W.sr fun K46 hK46 => ?_
   refine zR 2 ?_
   refine zL ⟨b30, 1, none⟩ (.int .i64 64) (hs44.cellAt 0 rfl rfl) ?_
   refine zR 1 ?_
   refine zI (64 * n_) (wrap_i64 (by omega) (by omega)) ?_
   refine zI (8 + (64 * n_)) (wrap_i64 (by omega) (by omega)) ?_
   refine zE 1 (hK46 _ _ ?_)
   refine W.ret (ret_seq (ret_block (ret_seq (ret_seq (ret_block (ret_seq ?_))))))
   have hs47 := St.tk0 hs44
   refine ret_of (.int .i64 (8 + (64 * n_))) (by kernel_rfl) ⟨_, ⟨congrArg (Value.int .i64) (by first | contradiction | (simp only [placeOf, if_pos hm]; split <;> omega) | (simp only [placeOf, if_neg hm]; done) | (simp only [placeOf, if_pos hm]; omega)), rfl⟩, hs47⟩
  ·
   have h45p := of_decide_eq_false h45
   refine W.skip ?_
   refine hK36 _ _ ?_
   refine W.exit (exit_block (by decide) (exit_seq (exit_seq (exit_here ?_))))
   refine hK6 _ _ ?_
   refine W.sr fun K48 hK48 => ?_
   refine zE 1 (hK48 _ _ ?_)
   refine W.ret ?_
   have hs49 := St.tk0 hs44
   refine ret_of (.int .i64 (-1)) (by kernel_rfl) ⟨_, ⟨congrArg (Value.int .i64) (by first | contradiction | (simp only [placeOf, if_pos hm]; split <;> omega) | (simp only [placeOf, if_neg hm]; done) | (simp only [placeOf, if_pos hm]; omega)), rfl⟩, hs49⟩
 ·
  have h41p := of_decide_eq_false h41
  refine zS 28 h41 ?_
  refine zS 27 h41 ?_
  refine zE 6 (hK37 _ _ ?_)
  refine W.cond_false false (by kernel_rfl) rfl ?_
  refine W.skip ?_
  refine hK36 _ _ ?_
  refine W.exit (exit_block (by decide) (exit_seq (exit_seq (exit_here ?_))))
  refine hK6 _ _ ?_
  refine W.sr fun K50 hK50 => ?_
  refine zE 1 (hK50 _ _ ?_)
  refine W.ret ?_
  have hs51 := St.tk0 hs40
  refine ret_of (.int .i64 (-1)) (by kernel_rfl) ⟨_, ⟨congrArg (Value.int .i64) (by first | contradiction | (simp only [placeOf, if_pos hm]; split <;> omega) | (simp only [placeOf, if_neg hm]; done) | (simp only [placeOf, if_pos hm]; omega)), rfl⟩, hs51⟩

theorem place2_not {gw gi gb n_ : Int} (B : Nat) (w : World) (hm : ¬ May gw gi gb) : Spec Tryd.prog 134 #[(.agg #[(.int .i64 gw), (.int .i64 gi), (.int .i64 gb)]), (.int .u8 2), (.int .i64 n_)] B w [] (fun v H' => v = .int .i64 (placeOf 2 gw gi gb n_) ∧ H' = []) := by
 refine spec_Q Tryd.func134 rfl fun hs => ?_
 refine W.sr fun K1 hK1 => ?_
 refine zN [(.int .i64 gw), (.int .i64 gi), (.int .i64 gb)] 63 hs fun b4 w2 hs3 => ?_
 refine zE 1 (hK1 _ _ ?_)
 refine W.sr fun K5 hK5 => ?_
 refine zE 1 (hK5 _ _ ?_)
 refine W.seq fun K6 hK6 => ?_
 refine W.sr fun K7 hK7 => ?_
 refine ops_R (runs_loadAgg (ad := ⟨b4, 0, none⟩) (cs := [(.int .i64 gw), (.int .i64 gi), (.int .i64 gb)]) (by kernel_rfl) (cells_sub (hs3.heapAt 0 rfl) rfl)) ?_
 refine zC00 hs3 (rows_spec (gw := gw) (gi := gi) (gb := gb) B _) fun w8 hs10 => ?_
 refine zE 1 (hK7 _ _ ?_)
 refine W.block ?_
 refine W.loop_start ?_
 refine loopAt_round ?_
 refine W.sr fun K11 hK11 => ?_
 refine zE 1 (hK11 _ _ ?_)
 refine W.seq fun K12 hK12 => ?_
 refine W.cond_true true (by kernel_rfl) rfl ?_
 refine W.skip ?_
 refine hK12 _ _ ?_
 refine W.seq fun K13 hK13 => ?_
 refine W.block ?_
 refine W.sr fun K14 hK14 => ?_
 refine zR 1 ?_
 refine zN [(.int .u8 0), (.int .i64 0), (.int .i64 0)] 196 hs10 fun b17 w15 hs16 => ?_
 refine ops_store (off := 0) (cs := [(.int .u8 0), (.int .i64 0), (.int .i64 0)]) (vs := [(.int .u8 1), (.int .i64 8), (.int .i64 1)]) hs16 (by kernel_rfl) (by simp) rfl (fun w18 hs19 => ?_)
 have hs20 : St B w [] w18 [blk b17 (.cells [(.int .u8 1), (.int .i64 8), (.int .i64 1)].toArray 196 (0, 0)), blk b4 (.cells [(.int .i64 gw), (.int .i64 gi), (.int .i64 gb)].toArray 63 (0, 0))] := hs19
 refine zD (hK14 _ _ ?_)
 refine W.seq fun K21 hK21 => ?_
 refine W.sr fun K22 hK22 => ?_
 refine zR 1 ?_
 refine zL ⟨b17, 0, none⟩ (.int .u8 1) (hs20.cellAt 0 rfl rfl) ?_
 refine zE 2 (hK22 _ _ ?_)
 refine W.cond_true true (by kernel_rfl) rfl ?_
 refine W.sr fun K23 hK23 => ?_
 refine zR 2 ?_
 refine zL ⟨b17, 1, none⟩ (.int .i64 8) (hs20.cellAt 0 rfl rfl) ?_
 refine zR 1 ?_
 refine zL ⟨b17, 2, none⟩ (.int .i64 1) (hs20.cellAt 0 rfl rfl) ?_
 refine zE 3 (hK23 _ _ ?_)
 refine W.exit (exit_seq (exit_here ?_))
 refine hK13 _ _ ?_
 refine W.region ?_
 refine zE 2 ?_
 refine loopAt_next ?_
 refine loopAt_round ?_
 refine W.sr fun K24 hK24 => ?_
 refine zE 1 (hK24 _ _ ?_)
 refine W.seq fun K25 hK25 => ?_
 refine W.cond_true true (by kernel_rfl) rfl ?_
 refine W.skip ?_
 refine hK25 _ _ ?_
 refine W.seq fun K26 hK26 => ?_
 refine W.block ?_
 refine W.sr fun K27 hK27 => ?_
 refine zR 1 ?_
 refine zN [(.int .u8 0), (.int .i64 0), (.int .i64 0)] 196 hs20 fun b30 w28 hs29 => ?_
 refine ops_store (off := 0) (cs := [(.int .u8 0), (.int .i64 0), (.int .i64 0)]) (vs := [(.int .u8 2), (.int .i64 64), (.int .i64 4)]) hs29 (by kernel_rfl) (by simp) rfl (fun w31 hs32 => ?_)
 have hs33 : St B w [] w31 [blk b30 (.cells [(.int .u8 2), (.int .i64 64), (.int .i64 4)].toArray 196 (0, 0)), blk b17 (.cells [(.int .u8 1), (.int .i64 8), (.int .i64 1)].toArray 196 (0, 0)), blk b4 (.cells [(.int .i64 gw), (.int .i64 gi), (.int .i64 gb)].toArray 63 (0, 0))] := hs32
 refine zD (hK27 _ _ ?_)
 refine W.seq fun K34 hK34 => ?_
 refine W.sr fun K35 hK35 => ?_
 refine zR 1 ?_
 refine zL ⟨b30, 0, none⟩ (.int .u8 2) (hs33.cellAt 0 rfl rfl) ?_
 refine zE 2 (hK35 _ _ ?_)
 refine W.cond_false false (by kernel_rfl) rfl ?_
 refine W.skip ?_
 refine hK34 _ _ ?_
 refine W.seq fun K36 hK36 => ?_
 refine W.sr fun K37 hK37 => ?_
 refine ops_R (runs_loadAgg (ad := ⟨b4, 0, none⟩) (cs := [(.int .i64 gw), (.int .i64 gi), (.int .i64 gb)]) (by kernel_rfl) (cells_sub (hs33.heapAt 2 rfl) rfl)) ?_
 refine zC00 hs33 (may_spec (gw := gw) (gi := gi) (gb := gb) B _) fun w38 hs40 => ?_
 refine zR 1 ?_
 rcases Bool.eq_false_or_eq_true (decide (May gw gi gb)) with h41 | h41
 ·
  have h41p := of_decide_eq_true h41
  refine zS 28 h41 ?_
  refine zS 27 h41 ?_
  refine zR 2 ?_
  refine zL ⟨b30, 2, none⟩ (.int .i64 4) (hs40.cellAt 0 rfl rfl) ?_
  refine zR 1 ?_
  refine zC00 hs40 (within_spec (n_ := n_) (f_ := 0) (t_ := 3) B _) fun w42 hs44 => ?_
  refine zE 1 (hK37 _ _ ?_)
  refine W.cond (decide (0 ≤ n_ ∧ n_ ≤ 3)) (by kernel_rfl) (fun h45 => ?_) (fun h45 => ?_)
  ·
   have h45p := of_decide_eq_true h45
   refine W.sr fun K46 hK46 => ?_
   refine zR 2 ?_
   refine zL ⟨b30, 1, none⟩ (.int .i64 64) (hs44.cellAt 0 rfl rfl) ?_
   refine zR 1 ?_
   refine ops_val (v := .int .i64 (IntKind.i64.wrap (64 * n_))) (v' := .int .i64 (IntKind.i64.wrap (64 * n_))) (by kernel_rfl) rfl ?_
   refine ops_val (v := .int .i64 (IntKind.i64.wrap (8 + (IntKind.i64.wrap (64 * n_))))) (v' := .int .i64 (IntKind.i64.wrap (8 + (IntKind.i64.wrap (64 * n_))))) (by kernel_rfl) rfl ?_
   refine zE 1 (hK46 _ _ ?_)
   refine W.ret (ret_seq (ret_block (ret_seq (ret_seq (ret_block (ret_seq ?_))))))
   have hs47 := St.tk0 hs44
   refine ret_of (.int .i64 (IntKind.i64.wrap (8 + (IntKind.i64.wrap (64 * n_))))) (by kernel_rfl) ⟨_, ⟨congrArg (Value.int .i64) (by first | contradiction | (simp only [placeOf, if_pos hm]; split <;> omega) | (simp only [placeOf, if_neg hm]; done) | (simp only [placeOf, if_pos hm]; omega)), rfl⟩, hs47⟩
  ·
   have h45p := of_decide_eq_false h45
   refine W.skip ?_
   refine hK36 _ _ ?_
   refine W.exit (exit_block (by decide) (exit_seq (exit_seq (exit_here ?_))))
   refine hK6 _ _ ?_
   refine W.sr fun K48 hK48 => ?_
   refine zE 1 (hK48 _ _ ?_)
   refine W.ret ?_
   have hs49 := St.tk0 hs44
   refine ret_of (.int .i64 (-1)) (by kernel_rfl) ⟨_, ⟨congrArg (Value.int .i64) (by first | contradiction | (simp only [placeOf, if_pos hm]; split <;> omega) | (simp only [placeOf, if_neg hm]; done) | (simp only [placeOf, if_pos hm]; omega)), rfl⟩, hs49⟩
 ·
  have h41p := of_decide_eq_false h41
  refine zS 28 h41 ?_
  refine zS 27 h41 ?_
  refine zE 6 (hK37 _ _ ?_)
  refine W.cond_false false (by kernel_rfl) rfl ?_
  refine W.skip ?_
  refine hK36 _ _ ?_
  refine W.exit (exit_block (by decide) (exit_seq (exit_seq (exit_here ?_))))
  refine hK6 _ _ ?_
  refine W.sr fun K50 hK50 => ?_
  refine zE 1 (hK50 _ _ ?_)
  refine W.ret ?_
  have hs51 := St.tk0 hs40
  refine ret_of (.int .i64 (-1)) (by kernel_rfl) ⟨_, ⟨congrArg (Value.int .i64) (by first | contradiction | (simp only [placeOf, if_pos hm]; split <;> omega) | (simp only [placeOf, if_neg hm]; done) | (simp only [placeOf, if_pos hm]; omega)), rfl⟩, hs51⟩

theorem place2_spec {gw gi gb n_ : Int} (B : Nat) (w : World) : Spec Tryd.prog 134 #[(.agg #[(.int .i64 gw), (.int .i64 gi), (.int .i64 gb)]), (.int .u8 2), (.int .i64 n_)] B w [] (fun v H' => v = .int .i64 (placeOf 2 gw gi gb n_) ∧ H' = []) := by
 by_cases hm : May gw gi gb
 · exact place2_may B w hm
 · exact place2_not B w hm

theorem areas_spec  (B : Nat) (w : World) : Spec Tryd.prog 150 #[] B w [] (fun v H' => v = .int .i64 264 ∧ H' = []) := by
 refine spec_Q Tryd.func150 rfl fun hs => ?_
 refine W.sr fun K1 hK1 => ?_
 refine zE 1 (hK1 _ _ ?_)
 refine W.sr fun K2 hK2 => ?_
 refine zE 1 (hK2 _ _ ?_)
 refine W.ret ?_
 refine ret_of (.int .i64 264) (by kernel_rfl) ⟨_, ⟨rfl, rfl⟩, hs⟩

theorem maps_spec {gw gi gb : Int} (B : Nat) (w : World) (hm : May gw gi gb) : Spec Tryd.prog 149 #[(.agg #[(.int .i64 gw), (.int .i64 gi), (.int .i64 gb)])] B w [] (fun v H' => v = .int .i64 (264 + 208 * gw) ∧ H' = []) := by
 refine spec_Q Tryd.func149 rfl fun hs => ?_
 have hm_ : (1 ≤ gw ∧ gw ≤ 4) ∧ (2 ≤ gi ∧ gi ≤ 64) ∧ (2 ≤ gb ∧ gb ≤ 512) := hm
 refine W.sr fun K1 hK1 => ?_
 refine zN [(.int .i64 gw), (.int .i64 gi), (.int .i64 gb)] 88 hs fun b4 w2 hs3 => ?_
 refine zE 1 (hK1 _ _ ?_)
 refine W.seq fun K5 hK5 => ?_
 have hs6 := hs3.drew
 refine W.regionD [(0, 0), (0, 0), (2, 2), (4, 4), (9, 9), (31, 16)] (fun w_ => St B w [] w_ [blk b4 (.cells [(.int .i64 gw), (.int .i64 gi), (.int .i64 gb)].toArray 88 (0, 0))]) (by kernel_rfl) hs6 ?_
 refine any_val (v := (.pointer (some ⟨b4, 0, none⟩))) (v' := (.pointer (some ⟨b4, 0, none⟩))) 1 (by kernel_rfl) (fun _ => by kernel_rfl) rfl hs6 ?_
 refine any_R 2 (by kernel_rfl) (fun _ hS_ => runs_load (ad := ⟨b4, 0, none⟩) (v := (.int .i64 gw)) (by kernel_rfl) (hS_.cellAt 0 rfl rfl)) hs6 ?_
 refine any_val (v := .int .i64 (IntKind.i64.wrap (208 * gw))) (v' := .int .i64 (208 * gw)) 3 (by kernel_rfl) (fun _ => by kernel_rfl) (congrArg (Value.int .i64) (wrap_i64 (by omega) (by omega))) hs6 ?_
 refine any_step 0 (by kernel_rfl) (by kernel_rfl) ?_
 refine zC00 hs6 (areas_spec B _) fun w7 hs9 => ?_
 refine ops_done (by kernel_rfl) ⟨hs9, ?_⟩
 refine any_val (v := .int .i64 (IntKind.i64.wrap (264 + (208 * gw)))) (v' := .int .i64 (264 + (208 * gw))) 4 (by kernel_rfl) (fun _ => by kernel_rfl) (congrArg (Value.int .i64) (wrap_i64 (by omega) (by omega))) hs9 ?_
 refine any_val (v := (.int .i64 (264 + (208 * gw)))) (v' := (.int .i64 (264 + (208 * gw)))) 5 (by kernel_rfl) (fun _ => by kernel_rfl) rfl hs9 ?_
 refine any_done (by kernel_rfl) ?_
 refine hK5 _ _ ?_
 refine W.ret ?_
 have hs10 := St.tk0 hs9
 refine ret_of (.int .i64 (264 + (208 * gw))) (by kernel_rfl) ⟨_, ⟨rfl, rfl⟩, hs10⟩

theorem rwords_spec {gw gi gb : Int} (B : Nat) (w : World) : Spec Tryd.prog 116 #[(.agg #[(.int .i64 gw), (.int .i64 gi), (.int .i64 gb)])] B w [] (fun v H' => v = .int .i64 (wordsOf gw gi gb) ∧ H' = []) := by
 refine spec_Q Tryd.func116 rfl fun hs => ?_
 refine W.sr fun K1 hK1 => ?_
 refine zN [(.int .i64 gw), (.int .i64 gi), (.int .i64 gb)] 88 hs fun b4 w2 hs3 => ?_
 refine zE 1 (hK1 _ _ ?_)
 refine W.seq fun K5 hK5 => ?_
 refine W.sr fun K6 hK6 => ?_
 refine ops_R (runs_loadAgg (ad := ⟨b4, 0, none⟩) (cs := [(.int .i64 gw), (.int .i64 gi), (.int .i64 gb)]) (by kernel_rfl) (cells_sub (hs3.heapAt 0 rfl) rfl)) ?_
 refine zC00 hs3 (rmay_spec (gw := gw) (gi := gi) (gb := gb) B _) fun w7 hs9 => ?_
 refine zE 1 (hK6 _ _ ?_)
 refine W.cond (!(decide (May gw gi gb))) (by kernel_rfl) (fun h10 => ?_) (fun h10 => ?_)
 ·
  have h10p : ¬ (May gw gi gb) := of_decide_eq_false (bnot_true h10)
  have hm : ¬ May gw gi gb := h10p
  refine W.sr fun K11 hK11 => ?_
  refine zE 1 (hK11 _ _ ?_)
  refine W.ret (ret_seq ?_)
  have hs12 := St.tk0 hs9
  refine ret_of (.int .i64 0) (by kernel_rfl) ⟨_, ⟨congrArg (Value.int .i64) (by first | contradiction | (simp only [wordsOf, if_pos hm]; omega) | (simp only [wordsOf, if_neg hm]; done)), rfl⟩, hs12⟩
 ·
  have h10p : May gw gi gb := of_decide_eq_true (bnot_false h10)
  have hm : May gw gi gb := h10p
  have hm_ : (1 ≤ gw ∧ gw ≤ 4) ∧ (2 ≤ gi ∧ gi ≤ 64) ∧ (2 ≤ gb ∧ gb ≤ 512) := hm
  refine W.skip ?_
  refine hK5 _ _ ?_
  refine W.seq fun K13 hK13 => ?_
  have hs14 := hs9.drew
  refine W.regionD [(0, 0), (1, 1), (2, 2), (0, 0), (8, 8), (16, 16), (36, 36), (0, 0), (128, 128), (256, 256), (576, 576), (2047, 1024)] (fun w_ => St B w [] w_ [blk b4 (.cells [(.int .i64 gw), (.int .i64 gi), (.int .i64 gb)].toArray 88 (0, 0))]) (by kernel_rfl) hs14 ?_
  refine any_R 0 (by kernel_rfl) (fun _ hS_ => runs_loadAgg (ad := ⟨b4, 0, none⟩) (cs := [(.int .i64 gw), (.int .i64 gi), (.int .i64 gb)]) (by kernel_rfl) (cells_sub (hS_.heapAt 0 rfl) rfl)) hs14 ?_
  refine any_val (v := (.pointer (some ⟨b4, 1, none⟩))) (v' := (.pointer (some ⟨b4, 1, none⟩))) 3 (by kernel_rfl) (fun _ => by kernel_rfl) rfl hs14 ?_
  refine any_R 4 (by kernel_rfl) (fun _ hS_ => runs_load (ad := ⟨b4, 1, none⟩) (v := (.int .i64 gi)) (by kernel_rfl) (hS_.cellAt 0 rfl rfl)) hs14 ?_
  refine any_val (v := .int .i64 (IntKind.i64.wrap (16 * gi))) (v' := .int .i64 (16 * gi)) 5 (by kernel_rfl) (fun _ => by kernel_rfl) (congrArg (Value.int .i64) (wrap_i64 (by omega) (by omega))) hs14 ?_
  refine any_val (v := (.pointer (some ⟨b4, 2, none⟩))) (v' := (.pointer (some ⟨b4, 2, none⟩))) 7 (by kernel_rfl) (fun _ => by kernel_rfl) rfl hs14 ?_
  refine any_R 8 (by kernel_rfl) (fun _ hS_ => runs_load (ad := ⟨b4, 2, none⟩) (v := (.int .i64 gb)) (by kernel_rfl) (hS_.cellAt 0 rfl rfl)) hs14 ?_
  refine any_val (v := .int .i64 (IntKind.i64.wrap (8 * gb))) (v' := .int .i64 (8 * gb)) 9 (by kernel_rfl) (fun _ => by kernel_rfl) (congrArg (Value.int .i64) (wrap_i64 (by omega) (by omega))) hs14 ?_
  refine any_step 1 (by kernel_rfl) (by kernel_rfl) ?_
  refine zC00 hs14 (maps_spec (hm := hm) (gw := gw) (gi := gi) (gb := gb) B _) fun w15 hs17 => ?_
  refine ops_done (by kernel_rfl) ⟨hs17, ?_⟩
  refine any_val (v := .int .i64 (IntKind.i64.wrap ((264 + 208 * gw) + 16))) (v' := .int .i64 ((264 + 208 * gw) + 16)) 2 (by kernel_rfl) (fun _ => by kernel_rfl) (congrArg (Value.int .i64) (wrap_i64 (by omega) (by omega))) hs17 ?_
  refine any_val (v := .int .i64 (IntKind.i64.wrap (((264 + 208 * gw) + 16) + (16 * gi)))) (v' := .int .i64 (((264 + 208 * gw) + 16) + (16 * gi))) 6 (by kernel_rfl) (fun _ => by kernel_rfl) (congrArg (Value.int .i64) (wrap_i64 (by omega) (by omega))) hs17 ?_
  refine any_val (v := .int .i64 (IntKind.i64.wrap ((((264 + 208 * gw) + 16) + (16 * gi)) + (8 * gb)))) (v' := .int .i64 ((((264 + 208 * gw) + 16) + (16 * gi)) + (8 * gb))) 10 (by kernel_rfl) (fun _ => by kernel_rfl) (congrArg (Value.int .i64) (wrap_i64 (by omega) (by omega))) hs17 ?_
  refine any_val (v := (.int .i64 ((((264 + 208 * gw) + 16) + (16 * gi)) + (8 * gb)))) (v' := (.int .i64 ((((264 + 208 * gw) + 16) + (16 * gi)) + (8 * gb)))) 11 (by kernel_rfl) (fun _ => by kernel_rfl) rfl hs17 ?_
  refine any_done (by kernel_rfl) ?_
  refine hK13 _ _ ?_
  refine W.ret ?_
  have hs18 := St.tk0 hs17
  refine ret_of (.int .i64 ((((264 + 208 * gw) + 16) + (16 * gi)) + (8 * gb))) (by kernel_rfl) ⟨_, ⟨congrArg (Value.int .i64) (by first | contradiction | (simp only [wordsOf, if_pos hm]; omega) | (simp only [wordsOf, if_neg hm]; done)), rfl⟩, hs18⟩

theorem rmapat_spec {gw gi gb : Int} (B : Nat) (w : World) : Spec Tryd.prog 118 #[(.agg #[(.int .i64 gw), (.int .i64 gi), (.int .i64 gb)])] B w [] (fun v H' => v = .int .i64 (placeOf 6 gw gi gb 0) ∧ H' = []) := by
 refine spec_Q Tryd.func118 rfl fun hs => ?_
 refine W.sr fun K1 hK1 => ?_
 refine zN [(.int .i64 gw), (.int .i64 gi), (.int .i64 gb)] 88 hs fun b4 w2 hs3 => ?_
 refine zE 1 (hK1 _ _ ?_)
 refine W.seq fun K5 hK5 => ?_
 refine W.sr fun K6 hK6 => ?_
 refine ops_R (runs_loadAgg (ad := ⟨b4, 0, none⟩) (cs := [(.int .i64 gw), (.int .i64 gi), (.int .i64 gb)]) (by kernel_rfl) (cells_sub (hs3.heapAt 0 rfl) rfl)) ?_
 refine zC00 hs3 (rmay_spec (gw := gw) (gi := gi) (gb := gb) B _) fun w7 hs9 => ?_
 refine zE 1 (hK6 _ _ ?_)
 refine W.cond (!(decide (May gw gi gb))) (by kernel_rfl) (fun h10 => ?_) (fun h10 => ?_)
 ·
  have h10p : ¬ (May gw gi gb) := of_decide_eq_false (bnot_true h10)
  have hm : ¬ May gw gi gb := h10p
  refine W.sr fun K11 hK11 => ?_
  refine zE 1 (hK11 _ _ ?_)
  refine W.ret (ret_seq ?_)
  have hs12 := St.tk0 hs9
  refine ret_of (.int .i64 (-1)) (by kernel_rfl) ⟨_, ⟨congrArg (Value.int .i64) (by first | contradiction | (simp only [placeOf, if_pos hm]; split <;> omega) | (simp only [placeOf, if_neg hm]; done) | (simp only [placeOf, if_pos hm]; omega)), rfl⟩, hs12⟩
 ·
  have h10p : May gw gi gb := of_decide_eq_true (bnot_false h10)
  have hm : May gw gi gb := h10p
  have hm_ : (1 ≤ gw ∧ gw ≤ 4) ∧ (2 ≤ gi ∧ gi ≤ 64) ∧ (2 ≤ gb ∧ gb ≤ 512) := hm
  refine W.skip ?_
  refine hK5 _ _ ?_
  refine W.sr fun K13 hK13 => ?_
  refine ops_R (runs_loadAgg (ad := ⟨b4, 0, none⟩) (cs := [(.int .i64 gw), (.int .i64 gi), (.int .i64 gb)]) (by kernel_rfl) (cells_sub (hs9.heapAt 0 rfl) rfl)) ?_
  refine zC00 hs9 (maps_spec (hm := hm) (gw := gw) (gi := gi) (gb := gb) B _) fun w14 hs16 => ?_
  refine zE 1 (hK13 _ _ ?_)
  refine W.ret ?_
  have hs17 := St.tk0 hs16
  refine ret_of (.int .i64 (264 + 208 * gw)) (by kernel_rfl) ⟨_, ⟨congrArg (Value.int .i64) (by first | contradiction | (simp only [placeOf, if_pos hm]; split <;> omega) | (simp only [placeOf, if_neg hm]; done) | (simp only [placeOf, if_pos hm]; omega)), rfl⟩, hs17⟩

theorem rbmapat_spec {gw gi gb : Int} (B : Nat) (w : World) : Spec Tryd.prog 128 #[(.agg #[(.int .i64 gw), (.int .i64 gi), (.int .i64 gb)])] B w [] (fun v H' => v = .int .i64 (placeOf 7 gw gi gb 0) ∧ H' = []) := by
 refine spec_Q Tryd.func128 rfl fun hs => ?_
 refine W.sr fun K1 hK1 => ?_
 refine zN [(.int .i64 gw), (.int .i64 gi), (.int .i64 gb)] 88 hs fun b4 w2 hs3 => ?_
 refine zE 1 (hK1 _ _ ?_)
 refine W.seq fun K5 hK5 => ?_
 refine W.sr fun K6 hK6 => ?_
 refine ops_R (runs_loadAgg (ad := ⟨b4, 0, none⟩) (cs := [(.int .i64 gw), (.int .i64 gi), (.int .i64 gb)]) (by kernel_rfl) (cells_sub (hs3.heapAt 0 rfl) rfl)) ?_
 refine zC00 hs3 (rmay_spec (gw := gw) (gi := gi) (gb := gb) B _) fun w7 hs9 => ?_
 refine zE 1 (hK6 _ _ ?_)
 refine W.cond (!(decide (May gw gi gb))) (by kernel_rfl) (fun h10 => ?_) (fun h10 => ?_)
 ·
  have h10p : ¬ (May gw gi gb) := of_decide_eq_false (bnot_true h10)
  have hm : ¬ May gw gi gb := h10p
  refine W.sr fun K11 hK11 => ?_
  refine zE 1 (hK11 _ _ ?_)
  refine W.ret (ret_seq ?_)
  have hs12 := St.tk0 hs9
  refine ret_of (.int .i64 (-1)) (by kernel_rfl) ⟨_, ⟨congrArg (Value.int .i64) (by first | contradiction | (simp only [placeOf, if_pos hm]; split <;> omega) | (simp only [placeOf, if_neg hm]; done) | (simp only [placeOf, if_pos hm]; omega)), rfl⟩, hs12⟩
 ·
  have h10p : May gw gi gb := of_decide_eq_true (bnot_false h10)
  have hm : May gw gi gb := h10p
  have hm_ : (1 ≤ gw ∧ gw ≤ 4) ∧ (2 ≤ gi ∧ gi ≤ 64) ∧ (2 ≤ gb ∧ gb ≤ 512) := hm
  refine W.skip ?_
  refine hK5 _ _ ?_
  refine W.sr fun K13 hK13 => ?_
  refine ops_R (runs_loadAgg (ad := ⟨b4, 0, none⟩) (cs := [(.int .i64 gw), (.int .i64 gi), (.int .i64 gb)]) (by kernel_rfl) (cells_sub (hs9.heapAt 0 rfl) rfl)) ?_
  refine zC00 hs9 (maps_spec (hm := hm) (gw := gw) (gi := gi) (gb := gb) B _) fun w14 hs16 => ?_
  refine zI ((264 + 208 * gw) + 8) (wrap_i64 (by omega) (by omega)) ?_
  refine zE 1 (hK13 _ _ ?_)
  refine W.ret ?_
  have hs17 := St.tk0 hs16
  refine ret_of (.int .i64 ((264 + 208 * gw) + 8)) (by kernel_rfl) ⟨_, ⟨congrArg (Value.int .i64) (by first | contradiction | (simp only [placeOf, if_pos hm]; split <;> omega) | (simp only [placeOf, if_neg hm]; done) | (simp only [placeOf, if_pos hm]; omega)), rfl⟩, hs17⟩

theorem rinodeat_spec {gw gi gb n_ : Int} (B : Nat) (w : World) : Spec Tryd.prog 119 #[(.agg #[(.int .i64 gw), (.int .i64 gi), (.int .i64 gb)]), (.int .i64 n_)] B w [] (fun v H' => v = .int .i64 (placeOf 8 gw gi gb n_) ∧ H' = []) := by
 refine spec_Q Tryd.func119 rfl fun hs => ?_
 refine W.sr fun K1 hK1 => ?_
 refine zN [(.int .i64 gw), (.int .i64 gi), (.int .i64 gb)] 88 hs fun b4 w2 hs3 => ?_
 refine zE 1 (hK1 _ _ ?_)
 refine W.seq fun K5 hK5 => ?_
 refine W.sr fun K6 hK6 => ?_
 refine ops_R (runs_loadAgg (ad := ⟨b4, 0, none⟩) (cs := [(.int .i64 gw), (.int .i64 gi), (.int .i64 gb)]) (by kernel_rfl) (cells_sub (hs3.heapAt 0 rfl) rfl)) ?_
 refine zC00 hs3 (rmay_spec (gw := gw) (gi := gi) (gb := gb) B _) fun w7 hs9 => ?_
 refine zR 2 ?_
 rcases Bool.eq_false_or_eq_true (!(decide (May gw gi gb))) with h10 | h10
 ·
  have h10p : ¬ (May gw gi gb) := of_decide_eq_false (bnot_true h10)
  refine zS 8 h10 ?_
  refine zS 7 h10 ?_
  refine zE 9 (hK6 _ _ ?_)
  refine W.cond_true true (by kernel_rfl) rfl ?_
  refine W.sr fun K11 hK11 => ?_
  refine zE 1 (hK11 _ _ ?_)
  refine W.ret (ret_seq ?_)
  have hs12 := St.tk0 hs9
  refine ret_of (.int .i64 (-1)) (by kernel_rfl) ⟨_, ⟨congrArg (Value.int .i64) (by by_cases hm : May gw gi gb <;> first | contradiction | (have hm_ : (1 ≤ gw ∧ gw ≤ 4) ∧ (2 ≤ gi ∧ gi ≤ 64) ∧ (2 ≤ gb ∧ gb ≤ 512) := hm; simp only [placeOf, if_pos hm]; split <;> omega) | (simp only [placeOf, if_neg hm]; done)), rfl⟩, hs12⟩
 ·
  have h10p : May gw gi gb := of_decide_eq_true (bnot_false h10)
  have hm : May gw gi gb := h10p
  have hm_ : (1 ≤ gw ∧ gw ≤ 4) ∧ (2 ≤ gi ∧ gi ≤ 64) ∧ (2 ≤ gb ∧ gb ≤ 512) := hm
  refine zS 8 h10 ?_
  refine zS 7 h10 ?_
  refine zR 4 ?_
  rcases Bool.eq_false_or_eq_true (decide (n_ < 0)) with h13 | h13
  ·
   have h13p := of_decide_eq_true h13
   refine zS 12 h13 ?_
   refine zS 10 h13 ?_
   refine zS 11 h13 ?_
   refine zE 5 (hK6 _ _ ?_)
   refine W.cond_true true (by kernel_rfl) rfl ?_
   refine W.sr fun K14 hK14 => ?_
   refine zE 1 (hK14 _ _ ?_)
   refine W.ret (ret_seq ?_)
   have hs15 := St.tk0 hs9
   refine ret_of (.int .i64 (-1)) (by kernel_rfl) ⟨_, ⟨congrArg (Value.int .i64) (by by_cases hm : May gw gi gb <;> first | contradiction | (have hm_ : (1 ≤ gw ∧ gw ≤ 4) ∧ (2 ≤ gi ∧ gi ≤ 64) ∧ (2 ≤ gb ∧ gb ≤ 512) := hm; simp only [placeOf, if_pos hm]; split <;> omega) | (simp only [placeOf, if_neg hm]; done)), rfl⟩, hs15⟩
  ·
   have h13p := of_decide_eq_false h13
   refine zS 12 h13 ?_
   refine zS 10 h13 ?_
   refine zS 11 h13 ?_
   refine zR 2 ?_
   refine zL ⟨b4, 1, none⟩ (.int .i64 gi) (hs9.cellAt 0 rfl rfl) ?_
   refine zE 2 (hK6 _ _ ?_)
   refine W.cond (decide (n_ ≥ gi)) (by kernel_rfl) (fun h16 => ?_) (fun h16 => ?_)
   ·
    have h16p := of_decide_eq_true h16
    refine W.sr fun K17 hK17 => ?_
    refine zE 1 (hK17 _ _ ?_)
    refine W.ret (ret_seq ?_)
    have hs18 := St.tk0 hs9
    refine ret_of (.int .i64 (-1)) (by kernel_rfl) ⟨_, ⟨congrArg (Value.int .i64) (by by_cases hm : May gw gi gb <;> first | contradiction | (have hm_ : (1 ≤ gw ∧ gw ≤ 4) ∧ (2 ≤ gi ∧ gi ≤ 64) ∧ (2 ≤ gb ∧ gb ≤ 512) := hm; simp only [placeOf, if_pos hm]; split <;> omega) | (simp only [placeOf, if_neg hm]; done)), rfl⟩, hs18⟩
   ·
    have h16p := of_decide_eq_false h16
    refine W.skip ?_
    refine hK5 _ _ ?_
    refine W.sr fun K19 hK19 => ?_
    refine ops_R (runs_loadAgg (ad := ⟨b4, 0, none⟩) (cs := [(.int .i64 gw), (.int .i64 gi), (.int .i64 gb)]) (by kernel_rfl) (cells_sub (hs9.heapAt 0 rfl) rfl)) ?_
    refine zC00 hs9 (maps_spec (hm := hm) (gw := gw) (gi := gi) (gb := gb) B _) fun w20 hs22 => ?_
    refine zI ((264 + 208 * gw) + 16) (wrap_i64 (by omega) (by omega)) ?_
    refine zR 1 ?_
    refine zI (16 * n_) (wrap_i64 (by omega) (by omega)) ?_
    refine zI (((264 + 208 * gw) + 16) + (16 * n_)) (wrap_i64 (by omega) (by omega)) ?_
    refine zE 1 (hK19 _ _ ?_)
    refine W.ret ?_
    have hs23 := St.tk0 hs22
    refine ret_of (.int .i64 (((264 + 208 * gw) + 16) + (16 * n_))) (by kernel_rfl) ⟨_, ⟨congrArg (Value.int .i64) (by by_cases hm : May gw gi gb <;> first | contradiction | (have hm_ : (1 ≤ gw ∧ gw ≤ 4) ∧ (2 ≤ gi ∧ gi ≤ 64) ∧ (2 ≤ gb ∧ gb ≤ 512) := hm; simp only [placeOf, if_pos hm]; split <;> omega) | (simp only [placeOf, if_neg hm]; done)), rfl⟩, hs23⟩

end Go.Proofs.YthimamnblklkbaaDoor

namespace Go.Proofs.YthimamnblklkbaaDoor
open Go Go.RowKit
def sessAt (i : Int) : Int := if 0 ≤ i ∧ i < 4 then 8 + 64 * i else -1
def slotAt (i k : Int) : Int := if (0 ≤ i ∧ i < 4) ∧ 0 ≤ k ∧ k < 4 then 16 + 64 * i + 12 * k else -1
def descAt (i k : Int) : Int := if (0 ≤ i ∧ i < 4) ∧ 0 ≤ k ∧ k < 4 then 64 + 64 * i + 2 * k else -1
theorem sess_range (i : Int) : (sessAt i = -1 ∧ ¬ (0 ≤ i ∧ i < 4)) ∨ (sessAt i = 8 + 64 * i ∧ 0 ≤ i ∧ i < 4) := by
  unfold sessAt; split <;> omega
theorem place2_eq (i : Int) : placeOf 2 1 2 2 i = sessAt i := by
  unfold placeOf sessAt
  rw [if_pos (show May 1 2 2 by unfold May; omega)]
  rfl
end Go.Proofs.YthimamnblklkbaaDoor

namespace Go.Proofs.YthimamnblklkbaaDoor
open Go Go.RowKit

theorem St.oldCellsB {B : Nat} {w0 w : World} {l0 : List Nat} {H : List Asn} {ad : Addr} {cs : List Value} (hs : St B w0 l0 w H) (hG : ad.block < B) (h : CellsAt (some ad) cs w0) : CellsAt (some ad) cs w := by
  obtain ⟨hB, hlow, l, _, hu⟩ := hs
  intro j v hj
  have hc := h j v hj
  have hb : (ad.add j).block = ad.block := by unfold Addr.add; split <;> rfl
  have he : w.heap[(ad.add j).block]? = w0.heap[(ad.add j).block]? := by
    rw [hb]
    exact hu.block _ (Nat.lt_of_lt_of_le hG hB) fun hm => absurd (hlow _ hm).1 (by omega)
  rw [World.cell?_of_block (w := w0) he]
  exact hc
theorem lt_of_cells {w : World} {ad : Addr} {v : Value} {cs : List Value} (h : CellsAt (some ad) cs w) (h0 : cs[0]? = some v) : ad.block < w.heap.size := by
  have hc := h 0 v h0
  have hb : (ad.add 0).block = ad.block := by unfold Addr.add; split <;> rfl
  rw [← hb]
  exact World.block_lt_of_cell? w _ hc

section
variable {α : Type} (Kd : Kind α)
end

section
variable {M : Bool} {P : Program} {ops : Array Oper} {i : Nat} {s : Fs} {w w' : World} {K : Fs → World → Prop}

theorem ops_storeArr {α : Type} (Kd : Kind α) {B : Nat} {w0 : World} {l0 : List Nat} {R : List Asn} {b k j : Nat} {t : TypeId} {l : List α} {vs : List Value} (d y : α) (hs : St B w0 l0 w (blk b (.cells (Kd.cells l).toArray t (0, 0)) :: R)) (hkl : k < l.length) (hj : j + vs.length ≤ Kd.size) (hv : vs.all Value.oneCell' = true)
    (hy : Kd.elem y = writeAt (Kd.elem (l.getD k d)) j vs) (hq : storeQ P ops i s = some ((adr (some ⟨b, 0, none⟩) (k * Kd.size)).add j, vs))
    (hk : ∀ w', St B w0 l0 w' (blk b (.cells (Kd.cells (l.set k y)).toArray t (0, 0)) :: R) → OpsAt M P ops (i + 1) (putS s (dstOf ops i) undef) w' K) : OpsAt M P ops i s w K := by
  rw [adr_add] at hq
  have hadd : adr (some ⟨b, 0, none⟩) (k * Kd.size + j) = ⟨b, k * Kd.size + j, none⟩ := by unfold adr Addr.add; split <;> simp_all
  rw [hadd] at hq
  refine ops_store hs hq ?_ hv fun w' hs' => hk w' ?_
  · rw [Kd.length]
    have : (k + 1) * Kd.size ≤ l.length * Kd.size := Nat.mul_le_mul_right _ hkl
    rw [Nat.add_mul] at this
    omega
  · rw [Kd.set d j y hkl hj hy] at hs'
    exact hs'
theorem runs_suffix {a : Option Addr} {n c size : Nat} {z : Int} (k : Nat) (hz : z = (k : Int)) (h1 : k ≤ n) (h2 : n ≤ c) (h3 : k < c) (ha : ∃ ad, a = some ad) (hq : sliceQ P ops i s = some ((a, n, c), some z, none, size)) : RunsTo P ops i s w (.slice (some (adr a (k * size))) (n - k) (c - k)) w := by
  subst hz
  obtain ⟨ad, rfl⟩ := ha
  have h := runs_slice (P := P) (ops := ops) (i := i) (s := s) (w := w) (size := size) (a := some ad) (n := n) (c := c) (lo := some (k : Int)) (hi := none) k n (.inl rfl) (.inr ⟨rfl, rfl⟩) h1 h2 hq
  rw [if_neg (by omega)] at h
  exact h
end
end Go.Proofs.YthimamnblklkbaaDoor

set_option maxRecDepth 20000
namespace Go.Proofs.YthimamnblklkbaaDoor
open Go Go.RowKit
set_option linter.unusedSimpArgs false
set_option linter.unusedVariables false

theorem sess_spec {i_ : Int} (B : Nat) (w : World) (hL : CellsAt (some ⟨1, 0, none⟩) [(.int .i64 1), (.int .i64 2), (.int .i64 2)] w) : Spec Tryd.prog 143 #[(.int .i64 i_)] B w [] (fun v H' => v = .int .i64 (sessAt i_) ∧ H' = []) := by
 refine spec_Q Tryd.func143 rfl fun hs => ?_
 refine W.sr fun K1 hK1 => ?_
 refine zE 1 (hK1 _ _ ?_)
 refine W.sr fun K2 hK2 => ?_
 refine ops_R (runs_loadAgg (ad := ⟨1, 0, none⟩) (cs := [(.int .i64 1), (.int .i64 2), (.int .i64 2)]) (by kernel_rfl) (hs.oldCells hL)) ?_
 refine zR 1 ?_
 refine zC00 hs (place2_spec (gw := 1) (gi := 2) (gb := 2) (n_ := i_) B _) fun w3 hs5 => ?_
 refine zE 1 (hK2 _ _ ?_)
 refine W.ret ?_
 refine ret_of (.int .i64 (placeOf 2 1 2 2 i_)) (by kernel_rfl) ⟨_, ⟨congrArg (Value.int .i64) (place2_eq i_), rfl⟩, hs5⟩

theorem rsess_spec {i_ : Int} (B : Nat) (w : World) : Spec Tryd.prog 54 #[(.int .i64 i_)] B w [] (fun v H' => v = .int .i64 (sessAt i_) ∧ H' = []) := by
 refine spec_Q Tryd.func54 rfl fun hs => ?_
 refine W.sr fun K1 hK1 => ?_
 refine zE 1 (hK1 _ _ ?_)
 refine W.seq fun K2 hK2 => ?_
 refine W.sr fun K3 hK3 => ?_
 refine zR 3 ?_
 rcases Bool.eq_false_or_eq_true (decide (i_ < 0)) with h4 | h4
 ·
  have h4p := of_decide_eq_true h4
  refine zS 5 h4 ?_
  refine zS 4 h4 ?_
  refine zE 3 (hK3 _ _ ?_)
  refine W.cond_true true (by kernel_rfl) rfl ?_
  refine W.sr fun K5 hK5 => ?_
  refine zE 1 (hK5 _ _ ?_)
  refine W.ret (ret_seq ?_)
  refine ret_of (.int .i64 (-1)) (by kernel_rfl) ⟨_, ⟨congrArg (Value.int .i64) (by have hse_ := sess_range i_; unfold sessAt; split <;> omega), rfl⟩, hs⟩
 ·
  have h4p := of_decide_eq_false h4
  refine zS 5 h4 ?_
  refine zS 4 h4 ?_
  refine zE 3 (hK3 _ _ ?_)
  refine W.cond (decide (i_ ≥ 4)) (by kernel_rfl) (fun h6 => ?_) (fun h6 => ?_)
  ·
   have h6p := of_decide_eq_true h6
   refine W.sr fun K7 hK7 => ?_
   refine zE 1 (hK7 _ _ ?_)
   refine W.ret (ret_seq ?_)
   refine ret_of (.int .i64 (-1)) (by kernel_rfl) ⟨_, ⟨congrArg (Value.int .i64) (by have hse_ := sess_range i_; unfold sessAt; split <;> omega), rfl⟩, hs⟩
  ·
   have h6p := of_decide_eq_false h6
   refine W.skip ?_
   refine hK2 _ _ ?_
   refine W.sr fun K8 hK8 => ?_
   refine zR 1 ?_
   have h9 : -9223372036854775808 ≤ (64 * i_) ∧ (64 * i_) ≤ 9223372036854775807 := by omega
   refine zI _ (wrap_i64 h9.1 h9.2) ?_
   have h10 : -9223372036854775808 ≤ (8 + (64 * i_)) ∧ (8 + (64 * i_)) ≤ 9223372036854775807 := by omega
   refine zI _ (wrap_i64 h10.1 h10.2) ?_
   refine zE 1 (hK8 _ _ ?_)
   refine W.ret ?_
   refine ret_of (.int .i64 (8 + (64 * i_))) (by kernel_rfl) ⟨_, ⟨congrArg (Value.int .i64) (by have hse_ := sess_range i_; unfold sessAt; split <;> omega), rfl⟩, hs⟩

theorem slotAt_part {i_ k_ : Int} (B : Nat) (w : World) (hL : CellsAt (some ⟨1, 0, none⟩) [(.int .i64 1), (.int .i64 2), (.int .i64 2)] w) : Spec Tryd.prog 147 #[(.int .i64 i_), (.int .i64 k_), (.int .i64 4), (.int .i64 8), (.int .i64 12)] B w [] (fun v H' => v = .int .i64 (slotAt i_ k_) ∧ H' = []) := by
 refine spec_Q Tryd.func147 rfl fun hs => ?_
 refine W.sr fun K1 hK1 => ?_
 refine zE 1 (hK1 _ _ ?_)
 refine W.sr fun K2 hK2 => ?_
 refine zR 1 ?_
 refine zC00 hs (sess_spec (i_ := i_) (hL := (hs.oldCells hL)) B _) fun w3 hs5 => ?_
 refine zE 1 (hK2 _ _ ?_)
 refine W.seq fun K6 hK6 => ?_
 refine W.sr fun K7 hK7 => ?_
 refine zR 3 ?_
 rcases Bool.eq_false_or_eq_true (decide ((sessAt i_) < 0)) with h8 | h8
 ·
  have h8p := of_decide_eq_true h8
  refine zS 16 h8 ?_
  refine zS 15 h8 ?_
  refine zE 6 (hK7 _ _ ?_)
  refine W.cond_true true (by kernel_rfl) rfl ?_
  refine W.sr fun K9 hK9 => ?_
  refine zE 1 (hK9 _ _ ?_)
  refine W.ret (ret_seq ?_)
  refine ret_of (.int .i64 (-1)) (by kernel_rfl) ⟨_, ⟨congrArg (Value.int .i64) (by have hse_ := sess_range i_; unfold slotAt; split <;> omega), rfl⟩, hs5⟩
 ·
  have h8p := of_decide_eq_false h8
  refine zS 16 h8 ?_
  refine zS 15 h8 ?_
  refine zR 3 ?_
  refine zC00 hs5 (within_spec (n_ := k_) (f_ := 0) (t_ := 3) B _) fun w10 hs12 => ?_
  refine zE 2 (hK7 _ _ ?_)
  refine W.cond (!(decide (0 ≤ k_ ∧ k_ ≤ 3))) (by kernel_rfl) (fun h13 => ?_) (fun h13 => ?_)
  ·
   have h13p : ¬ (0 ≤ k_ ∧ k_ ≤ 3) := of_decide_eq_false (bnot_true h13)
   refine W.sr fun K14 hK14 => ?_
   refine zE 1 (hK14 _ _ ?_)
   refine W.ret (ret_seq ?_)
   refine ret_of (.int .i64 (-1)) (by kernel_rfl) ⟨_, ⟨congrArg (Value.int .i64) (by have hse_ := sess_range i_; unfold slotAt; split <;> omega), rfl⟩, hs12⟩
  ·
   have h13p : 0 ≤ k_ ∧ k_ ≤ 3 := of_decide_eq_true (bnot_false h13)
   refine W.skip ?_
   refine hK6 _ _ ?_
   refine W.sr fun K15 hK15 => ?_
   refine zR 2 ?_
   have h16 : -9223372036854775808 ≤ ((sessAt i_) + 8) ∧ ((sessAt i_) + 8) ≤ 9223372036854775807 := by (have hse_ := sess_range i_; omega)
   refine zI _ (wrap_i64 h16.1 h16.2) ?_
   refine zR 2 ?_
   have h17 : -9223372036854775808 ≤ (12 * k_) ∧ (12 * k_) ≤ 9223372036854775807 := by (have hse_ := sess_range i_; omega)
   refine zI _ (wrap_i64 h17.1 h17.2) ?_
   have h18 : -9223372036854775808 ≤ (((sessAt i_) + 8) + (12 * k_)) ∧ (((sessAt i_) + 8) + (12 * k_)) ≤ 9223372036854775807 := by (have hse_ := sess_range i_; omega)
   refine zI _ (wrap_i64 h18.1 h18.2) ?_
   refine zE 1 (hK15 _ _ ?_)
   refine W.ret ?_
   refine ret_of (.int .i64 (((sessAt i_) + 8) + (12 * k_))) (by kernel_rfl) ⟨_, ⟨congrArg (Value.int .i64) (by have hse_ := sess_range i_; unfold slotAt; split <;> omega), rfl⟩, hs12⟩

theorem descAt_part {i_ k_ : Int} (B : Nat) (w : World) (hL : CellsAt (some ⟨1, 0, none⟩) [(.int .i64 1), (.int .i64 2), (.int .i64 2)] w) : Spec Tryd.prog 147 #[(.int .i64 i_), (.int .i64 k_), (.int .i64 4), (.int .i64 56), (.int .i64 2)] B w [] (fun v H' => v = .int .i64 (descAt i_ k_) ∧ H' = []) := by
 refine spec_Q Tryd.func147 rfl fun hs => ?_
 refine W.sr fun K1 hK1 => ?_
 refine zE 1 (hK1 _ _ ?_)
 refine W.sr fun K2 hK2 => ?_
 refine zR 1 ?_
 refine zC00 hs (sess_spec (i_ := i_) (hL := (hs.oldCells hL)) B _) fun w3 hs5 => ?_
 refine zE 1 (hK2 _ _ ?_)
 refine W.seq fun K6 hK6 => ?_
 refine W.sr fun K7 hK7 => ?_
 refine zR 3 ?_
 rcases Bool.eq_false_or_eq_true (decide ((sessAt i_) < 0)) with h8 | h8
 ·
  have h8p := of_decide_eq_true h8
  refine zS 16 h8 ?_
  refine zS 15 h8 ?_
  refine zE 6 (hK7 _ _ ?_)
  refine W.cond_true true (by kernel_rfl) rfl ?_
  refine W.sr fun K9 hK9 => ?_
  refine zE 1 (hK9 _ _ ?_)
  refine W.ret (ret_seq ?_)
  refine ret_of (.int .i64 (-1)) (by kernel_rfl) ⟨_, ⟨congrArg (Value.int .i64) (by have hse_ := sess_range i_; unfold descAt; split <;> omega), rfl⟩, hs5⟩
 ·
  have h8p := of_decide_eq_false h8
  refine zS 16 h8 ?_
  refine zS 15 h8 ?_
  refine zR 3 ?_
  refine zC00 hs5 (within_spec (n_ := k_) (f_ := 0) (t_ := 3) B _) fun w10 hs12 => ?_
  refine zE 2 (hK7 _ _ ?_)
  refine W.cond (!(decide (0 ≤ k_ ∧ k_ ≤ 3))) (by kernel_rfl) (fun h13 => ?_) (fun h13 => ?_)
  ·
   have h13p : ¬ (0 ≤ k_ ∧ k_ ≤ 3) := of_decide_eq_false (bnot_true h13)
   refine W.sr fun K14 hK14 => ?_
   refine zE 1 (hK14 _ _ ?_)
   refine W.ret (ret_seq ?_)
   refine ret_of (.int .i64 (-1)) (by kernel_rfl) ⟨_, ⟨congrArg (Value.int .i64) (by have hse_ := sess_range i_; unfold descAt; split <;> omega), rfl⟩, hs12⟩
  ·
   have h13p : 0 ≤ k_ ∧ k_ ≤ 3 := of_decide_eq_true (bnot_false h13)
   refine W.skip ?_
   refine hK6 _ _ ?_
   refine W.sr fun K15 hK15 => ?_
   refine zR 2 ?_
   have h16 : -9223372036854775808 ≤ ((sessAt i_) + 56) ∧ ((sessAt i_) + 56) ≤ 9223372036854775807 := by (have hse_ := sess_range i_; omega)
   refine zI _ (wrap_i64 h16.1 h16.2) ?_
   refine zR 2 ?_
   have h17 : -9223372036854775808 ≤ (2 * k_) ∧ (2 * k_) ≤ 9223372036854775807 := by (have hse_ := sess_range i_; omega)
   refine zI _ (wrap_i64 h17.1 h17.2) ?_
   have h18 : -9223372036854775808 ≤ (((sessAt i_) + 56) + (2 * k_)) ∧ (((sessAt i_) + 56) + (2 * k_)) ≤ 9223372036854775807 := by (have hse_ := sess_range i_; omega)
   refine zI _ (wrap_i64 h18.1 h18.2) ?_
   refine zE 1 (hK15 _ _ ?_)
   refine W.ret ?_
   refine ret_of (.int .i64 (((sessAt i_) + 56) + (2 * k_))) (by kernel_rfl) ⟨_, ⟨congrArg (Value.int .i64) (by have hse_ := sess_range i_; unfold descAt; split <;> omega), rfl⟩, hs12⟩

theorem slotat_spec {i_ k_ : Int} (B : Nat) (w : World) (hL : CellsAt (some ⟨1, 0, none⟩) [(.int .i64 1), (.int .i64 2), (.int .i64 2)] w) : Spec Tryd.prog 106 #[(.int .i64 i_), (.int .i64 k_)] B w [] (fun v H' => v = .int .i64 (slotAt i_ k_) ∧ H' = []) := by
 refine spec_Q Tryd.func106 rfl fun hs => ?_
 refine W.sr fun K1 hK1 => ?_
 refine zE 1 (hK1 _ _ ?_)
 refine W.sr fun K2 hK2 => ?_
 refine zR 2 ?_
 refine zC00 hs (slotAt_part (i_ := i_) (k_ := k_) (hL := (hs.oldCells hL)) B _) fun w3 hs5 => ?_
 refine zE 1 (hK2 _ _ ?_)
 refine W.ret ?_
 refine ret_of (.int .i64 (slotAt i_ k_)) (by kernel_rfl) ⟨_, ⟨rfl, rfl⟩, hs5⟩

theorem descat_spec {i_ k_ : Int} (B : Nat) (w : World) (hL : CellsAt (some ⟨1, 0, none⟩) [(.int .i64 1), (.int .i64 2), (.int .i64 2)] w) : Spec Tryd.prog 107 #[(.int .i64 i_), (.int .i64 k_)] B w [] (fun v H' => v = .int .i64 (descAt i_ k_) ∧ H' = []) := by
 refine spec_Q Tryd.func107 rfl fun hs => ?_
 refine W.sr fun K1 hK1 => ?_
 refine zE 1 (hK1 _ _ ?_)
 refine W.sr fun K2 hK2 => ?_
 refine zR 2 ?_
 refine zC00 hs (descAt_part (i_ := i_) (k_ := k_) (hL := (hs.oldCells hL)) B _) fun w3 hs5 => ?_
 refine zE 1 (hK2 _ _ ?_)
 refine W.ret ?_
 refine ret_of (.int .i64 (descAt i_ k_)) (by kernel_rfl) ⟨_, ⟨rfl, rfl⟩, hs5⟩

theorem rslotat_spec {i_ k_ : Int} (B : Nat) (w : World) : Spec Tryd.prog 52 #[(.int .i64 i_), (.int .i64 k_)] B w [] (fun v H' => v = .int .i64 (slotAt i_ k_) ∧ H' = []) := by
 refine spec_Q Tryd.func52 rfl fun hs => ?_
 refine W.sr fun K1 hK1 => ?_
 refine zE 1 (hK1 _ _ ?_)
 refine W.seq fun K2 hK2 => ?_
 refine W.sr fun K3 hK3 => ?_
 refine zR 1 ?_
 refine zC00 hs (rsess_spec (i_ := i_) B _) fun w4 hs6 => ?_
 refine zR 2 ?_
 rcases Bool.eq_false_or_eq_true (decide ((sessAt i_) < 0)) with h7 | h7
 ·
  have h7p := of_decide_eq_true h7
  refine zS 8 h7 ?_
  refine zS 7 h7 ?_
  refine zE 7 (hK3 _ _ ?_)
  refine W.cond_true true (by kernel_rfl) rfl ?_
  refine W.sr fun K8 hK8 => ?_
  refine zE 1 (hK8 _ _ ?_)
  refine W.ret (ret_seq ?_)
  refine ret_of (.int .i64 (-1)) (by kernel_rfl) ⟨_, ⟨congrArg (Value.int .i64) (by have hse_ := sess_range i_; unfold slotAt; split <;> omega), rfl⟩, hs6⟩
 ·
  have h7p := of_decide_eq_false h7
  refine zS 8 h7 ?_
  refine zS 7 h7 ?_
  refine zR 4 ?_
  rcases Bool.eq_false_or_eq_true (decide (k_ < 0)) with h9 | h9
  ·
   have h9p := of_decide_eq_true h9
   refine zS 12 h9 ?_
   refine zS 10 h9 ?_
   refine zS 11 h9 ?_
   refine zE 3 (hK3 _ _ ?_)
   refine W.cond_true true (by kernel_rfl) rfl ?_
   refine W.sr fun K10 hK10 => ?_
   refine zE 1 (hK10 _ _ ?_)
   refine W.ret (ret_seq ?_)
   refine ret_of (.int .i64 (-1)) (by kernel_rfl) ⟨_, ⟨congrArg (Value.int .i64) (by have hse_ := sess_range i_; unfold slotAt; split <;> omega), rfl⟩, hs6⟩
  ·
   have h9p := of_decide_eq_false h9
   refine zS 12 h9 ?_
   refine zS 10 h9 ?_
   refine zS 11 h9 ?_
   refine zE 3 (hK3 _ _ ?_)
   refine W.cond (decide (k_ ≥ 4)) (by kernel_rfl) (fun h11 => ?_) (fun h11 => ?_)
   ·
    have h11p := of_decide_eq_true h11
    refine W.sr fun K12 hK12 => ?_
    refine zE 1 (hK12 _ _ ?_)
    refine W.ret (ret_seq ?_)
    refine ret_of (.int .i64 (-1)) (by kernel_rfl) ⟨_, ⟨congrArg (Value.int .i64) (by have hse_ := sess_range i_; unfold slotAt; split <;> omega), rfl⟩, hs6⟩
   ·
    have h11p := of_decide_eq_false h11
    refine W.skip ?_
    refine hK2 _ _ ?_
    refine W.sr fun K13 hK13 => ?_
    refine zR 1 ?_
    refine zC00 hs6 (rsess_spec (i_ := i_) B _) fun w14 hs16 => ?_
    have h17 : -9223372036854775808 ≤ ((sessAt i_) + 8) ∧ ((sessAt i_) + 8) ≤ 9223372036854775807 := by (have hse_ := sess_range i_; omega)
    refine zI _ (wrap_i64 h17.1 h17.2) ?_
    refine zR 1 ?_
    have h18 : -9223372036854775808 ≤ (12 * k_) ∧ (12 * k_) ≤ 9223372036854775807 := by (have hse_ := sess_range i_; omega)
    refine zI _ (wrap_i64 h18.1 h18.2) ?_
    have h19 : -9223372036854775808 ≤ (((sessAt i_) + 8) + (12 * k_)) ∧ (((sessAt i_) + 8) + (12 * k_)) ≤ 9223372036854775807 := by (have hse_ := sess_range i_; omega)
    refine zI _ (wrap_i64 h19.1 h19.2) ?_
    refine zE 1 (hK13 _ _ ?_)
    refine W.ret ?_
    refine ret_of (.int .i64 (((sessAt i_) + 8) + (12 * k_))) (by kernel_rfl) ⟨_, ⟨congrArg (Value.int .i64) (by have hse_ := sess_range i_; unfold slotAt; split <;> omega), rfl⟩, hs16⟩

end Go.Proofs.YthimamnblklkbaaDoor

set_option maxRecDepth 20000
namespace Go.Proofs.YthimamnblklkbaaDoor
open Go Go.RowKit
set_option linter.unusedSimpArgs false
set_option linter.unusedVariables false

theorem format_spec {gw gi gb : Int} (B : Nat) (w : World) : Spec Tryd.prog 63 #[(.agg #[(.int .i64 gw), (.int .i64 gi), (.int .i64 gb)])] B w [] (fun v H' => ∃ a' c', v = .slice a' (fmtW gw gi gb).length c' ∧ H' = [kU64.row a' c' (fmtW gw gi gb)]) := by
 refine spec_Q Tryd.func63 rfl fun hs => ?_
 refine W.sr fun K1 hK1 => ?_
 refine zN [(.int .i64 gw), (.int .i64 gi), (.int .i64 gb)] 88 hs fun b4 w2 hs3 => ?_
 refine zE 1 (hK1 _ _ ?_)
 refine W.seq fun K5 hK5 => ?_
 refine W.sr fun K6 hK6 => ?_
 refine ops_R (runs_loadAgg (ad := ⟨b4, 0, none⟩) (cs := [(.int .i64 gw), (.int .i64 gi), (.int .i64 gb)]) (by kernel_rfl) (cells_sub (hs3.heapAt 0 rfl) rfl)) ?_
 refine zC00 hs3 (rmay_spec (gw := gw) (gi := gi) (gb := gb) B _) fun w7 hs9 => ?_
 refine zE 1 (hK6 _ _ ?_)
 refine W.cond (!(decide (May gw gi gb))) (by kernel_rfl) (fun h10 => ?_) (fun h10 => ?_)
 ·
  have h10p : ¬ (May gw gi gb) := of_decide_eq_false (bnot_true h10)
  refine W.sr fun K11 hK11 => ?_
  refine zE 1 (hK11 _ _ ?_)
  refine W.ret (ret_seq ?_)
  have hs12 := St.tk0 hs9
  have hk := St.knil kU64 hs12
  have e_ : fmtW gw gi gb = [] := if_neg (by assumption)
  refine ret_of (.slice none 0 0) (by kernel_rfl) ⟨_, ⟨none, 0, by rw [e_]; rfl, by rw [e_]⟩, hk⟩
 ·
  have h10p : May gw gi gb := of_decide_eq_true (bnot_false h10)
  have hm : May gw gi gb := h10p
  have hm_ : (1 ≤ gw ∧ gw ≤ 4) ∧ (2 ≤ gi ∧ gi ≤ 64) ∧ (2 ≤ gb ∧ gb ≤ 512) := hm
  have hwd := words_may hm
  have hp6 := place6 hm
  have hp7 := place7 hm
  have hp8 := place8_in (n := 1) hm (by omega)
  refine W.skip ?_
  refine hK5 _ _ ?_
  refine W.sr fun K13 hK13 => ?_
  refine ops_R (runs_loadAgg (ad := ⟨b4, 0, none⟩) (cs := [(.int .i64 gw), (.int .i64 gi), (.int .i64 gb)]) (by kernel_rfl) (cells_sub (hs9.heapAt 0 rfl) rfl)) ?_
  refine zC00 hs9 (rwords_spec (gw := gw) (gi := gi) (gb := gb) B _) fun w14 hs16 => ?_
  refine ops_makeSlice kU64 0 (z := (wordsOf gw gi gb)) (bytes := 8) ((wordsOf gw gi gb).toNat) (by omega) hs16 (by kernel_rfl) (by omega) (by unfold maxLen; omega) (fun b17 w18 hs19 => ?_)
  refine zE 1 (hK13 _ _ ?_)
  refine W.sr fun K20 hK20 => ?_
  refine zR 1 ?_
  have hk21 : 0 < (wordsOf gw gi gb).toNat := by omega
  have hk22 : 0 < (List.replicate ((wordsOf gw gi gb).toNat) (0 : Int)).length := by simp only [List.length_set, List.length_replicate]; exact hk21
  refine ops_R (runs_index (a := (some ⟨b17, 0, none⟩)) (n := (wordsOf gw gi gb).toNat) (z := 0) (size := 1) 0 rfl hk21 (kU64.addr (St.kcells kU64 hs19 0 rfl) hk22) (by kernel_rfl)) ?_
  refine ops_storeK kU64 (j := 0) (vs := [(.int .u64 32762617960297063)]) 0 32762617960297063 hs19 hk22 (Nat.le_of_ble_eq_true rfl) (by simp) rfl rfl (by kernel_rfl) (fun w23 hs24 => ?_)
  refine zD (hK20 _ _ ?_)
  refine W.sr fun K26 hK26 => ?_
  refine zR 2 ?_
  refine zL ⟨b4, 0, none⟩ (.int .i64 gw) (hs24.cellAt 1 rfl rfl) ?_
  refine zI gw (wrap_u64 (by omega) (by omega)) ?_
  have hk27 : 1 < (wordsOf gw gi gb).toNat := by omega
  have hk28 : 1 < ((List.replicate ((wordsOf gw gi gb).toNat) (0 : Int)).set 0 32762617960297063).length := by simp only [List.length_set, List.length_replicate]; exact hk27
  refine ops_R (runs_index (a := (some ⟨b17, 0, none⟩)) (n := (wordsOf gw gi gb).toNat) (z := 1) (size := 1) 1 rfl hk27 (kU64.addr (St.kcells kU64 hs24 0 rfl) hk28) (by kernel_rfl)) ?_
  refine ops_storeK kU64 (j := 0) (vs := [(.int .u64 gw)]) 0 gw hs24 hk28 (Nat.le_of_ble_eq_true rfl) (by simp) rfl rfl (by kernel_rfl) (fun w29 hs30 => ?_)
  refine zD (hK26 _ _ ?_)
  refine W.sr fun K32 hK32 => ?_
  refine zR 2 ?_
  refine zL ⟨b4, 1, none⟩ (.int .i64 gi) (hs30.cellAt 1 rfl rfl) ?_
  refine zI gi (wrap_u64 (by omega) (by omega)) ?_
  have hk33 : 2 < (wordsOf gw gi gb).toNat := by omega
  have hk34 : 2 < (((List.replicate ((wordsOf gw gi gb).toNat) (0 : Int)).set 0 32762617960297063).set 1 gw).length := by simp only [List.length_set, List.length_replicate]; exact hk33
  refine ops_R (runs_index (a := (some ⟨b17, 0, none⟩)) (n := (wordsOf gw gi gb).toNat) (z := 2) (size := 1) 2 rfl hk33 (kU64.addr (St.kcells kU64 hs30 0 rfl) hk34) (by kernel_rfl)) ?_
  refine ops_storeK kU64 (j := 0) (vs := [(.int .u64 gi)]) 0 gi hs30 hk34 (Nat.le_of_ble_eq_true rfl) (by simp) rfl rfl (by kernel_rfl) (fun w35 hs36 => ?_)
  refine zD (hK32 _ _ ?_)
  refine W.sr fun K38 hK38 => ?_
  refine zR 2 ?_
  refine zL ⟨b4, 2, none⟩ (.int .i64 gb) (hs36.cellAt 1 rfl rfl) ?_
  refine zI gb (wrap_u64 (by omega) (by omega)) ?_
  have hk39 : 3 < (wordsOf gw gi gb).toNat := by omega
  have hk40 : 3 < ((((List.replicate ((wordsOf gw gi gb).toNat) (0 : Int)).set 0 32762617960297063).set 1 gw).set 2 gi).length := by simp only [List.length_set, List.length_replicate]; exact hk39
  refine ops_R (runs_index (a := (some ⟨b17, 0, none⟩)) (n := (wordsOf gw gi gb).toNat) (z := 3) (size := 1) 3 rfl hk39 (kU64.addr (St.kcells kU64 hs36 0 rfl) hk40) (by kernel_rfl)) ?_
  refine ops_storeK kU64 (j := 0) (vs := [(.int .u64 gb)]) 0 gb hs36 hk40 (Nat.le_of_ble_eq_true rfl) (by simp) rfl rfl (by kernel_rfl) (fun w41 hs42 => ?_)
  refine zD (hK38 _ _ ?_)
  refine W.sr fun K44 hK44 => ?_
  refine zR 1 ?_
  refine ops_R (runs_loadAgg (ad := ⟨b4, 0, none⟩) (cs := [(.int .i64 gw), (.int .i64 gi), (.int .i64 gb)]) (by kernel_rfl) (cells_sub (hs42.heapAt 1 rfl) rfl)) ?_
  refine zC00 hs42 (rmapat_spec (gw := gw) (gi := gi) (gb := gb) B _) fun w45 hs47 => ?_
  have hk48 : (placeOf 6 gw gi gb 0).toNat < (wordsOf gw gi gb).toNat := by omega
  have hk49 : (placeOf 6 gw gi gb 0).toNat < (((((List.replicate ((wordsOf gw gi gb).toNat) (0 : Int)).set 0 32762617960297063).set 1 gw).set 2 gi).set 3 gb).length := by simp only [List.length_set, List.length_replicate]; exact hk48
  refine ops_R (runs_index (a := (some ⟨b17, 0, none⟩)) (n := (wordsOf gw gi gb).toNat) (z := (placeOf 6 gw gi gb 0)) (size := 1) ((placeOf 6 gw gi gb 0).toNat) (by omega) hk48 (kU64.addr (St.kcells kU64 hs47 0 rfl) hk49) (by kernel_rfl)) ?_
  refine ops_storeK kU64 (j := 0) (vs := [(.int .u64 3)]) 0 3 hs47 hk49 (Nat.le_of_ble_eq_true rfl) (by simp) rfl rfl (by kernel_rfl) (fun w50 hs51 => ?_)
  refine zD (hK44 _ _ ?_)
  refine W.sr fun K53 hK53 => ?_
  refine zR 1 ?_
  refine ops_R (runs_loadAgg (ad := ⟨b4, 0, none⟩) (cs := [(.int .i64 gw), (.int .i64 gi), (.int .i64 gb)]) (by kernel_rfl) (cells_sub (hs51.heapAt 1 rfl) rfl)) ?_
  refine zC00 hs51 (rbmapat_spec (gw := gw) (gi := gi) (gb := gb) B _) fun w54 hs56 => ?_
  have hk57 : (placeOf 7 gw gi gb 0).toNat < (wordsOf gw gi gb).toNat := by omega
  have hk58 : (placeOf 7 gw gi gb 0).toNat < ((((((List.replicate ((wordsOf gw gi gb).toNat) (0 : Int)).set 0 32762617960297063).set 1 gw).set 2 gi).set 3 gb).set ((placeOf 6 gw gi gb 0).toNat) 3).length := by simp only [List.length_set, List.length_replicate]; exact hk57
  refine ops_R (runs_index (a := (some ⟨b17, 0, none⟩)) (n := (wordsOf gw gi gb).toNat) (z := (placeOf 7 gw gi gb 0)) (size := 1) ((placeOf 7 gw gi gb 0).toNat) (by omega) hk57 (kU64.addr (St.kcells kU64 hs56 0 rfl) hk58) (by kernel_rfl)) ?_
  refine ops_storeK kU64 (j := 0) (vs := [(.int .u64 1)]) 0 1 hs56 hk58 (Nat.le_of_ble_eq_true rfl) (by simp) rfl rfl (by kernel_rfl) (fun w59 hs60 => ?_)
  refine zD (hK53 _ _ ?_)
  refine W.sr fun K62 hK62 => ?_
  refine zR 1 ?_
  refine ops_R (runs_loadAgg (ad := ⟨b4, 0, none⟩) (cs := [(.int .i64 gw), (.int .i64 gi), (.int .i64 gb)]) (by kernel_rfl) (cells_sub (hs60.heapAt 1 rfl) rfl)) ?_
  refine zC00 hs60 (rinodeat_spec (gw := gw) (gi := gi) (gb := gb) (n_ := 1) B _) fun w63 hs65 => ?_
  have hk66 : (placeOf 8 gw gi gb 1).toNat < (wordsOf gw gi gb).toNat := by omega
  have hk67 : (placeOf 8 gw gi gb 1).toNat < (((((((List.replicate ((wordsOf gw gi gb).toNat) (0 : Int)).set 0 32762617960297063).set 1 gw).set 2 gi).set 3 gb).set ((placeOf 6 gw gi gb 0).toNat) 3).set ((placeOf 7 gw gi gb 0).toNat) 1).length := by simp only [List.length_set, List.length_replicate]; exact hk66
  refine ops_R (runs_index (a := (some ⟨b17, 0, none⟩)) (n := (wordsOf gw gi gb).toNat) (z := (placeOf 8 gw gi gb 1)) (size := 1) ((placeOf 8 gw gi gb 1).toNat) (by omega) hk66 (kU64.addr (St.kcells kU64 hs65 0 rfl) hk67) (by kernel_rfl)) ?_
  refine ops_storeK kU64 (j := 0) (vs := [(.int .u64 2)]) 0 2 hs65 hk67 (Nat.le_of_ble_eq_true rfl) (by simp) rfl rfl (by kernel_rfl) (fun w68 hs69 => ?_)
  refine zD (hK62 _ _ ?_)
  refine W.sr fun K71 hK71 => ?_
  refine zR 1 ?_
  refine ops_R (runs_loadAgg (ad := ⟨b4, 0, none⟩) (cs := [(.int .i64 gw), (.int .i64 gi), (.int .i64 gb)]) (by kernel_rfl) (cells_sub (hs69.heapAt 1 rfl) rfl)) ?_
  refine zC00 hs69 (rinodeat_spec (gw := gw) (gi := gi) (gb := gb) (n_ := 1) B _) fun w72 hs74 => ?_
  refine zI ((placeOf 8 gw gi gb 1) + 1) (wrap_i64 (by omega) (by omega)) ?_
  have hk75 : ((placeOf 8 gw gi gb 1) + 1).toNat < (wordsOf gw gi gb).toNat := by omega
  have hk76 : ((placeOf 8 gw gi gb 1) + 1).toNat < ((((((((List.replicate ((wordsOf gw gi gb).toNat) (0 : Int)).set 0 32762617960297063).set 1 gw).set 2 gi).set 3 gb).set ((placeOf 6 gw gi gb 0).toNat) 3).set ((placeOf 7 gw gi gb 0).toNat) 1).set ((placeOf 8 gw gi gb 1).toNat) 2).length := by simp only [List.length_set, List.length_replicate]; exact hk75
  refine ops_R (runs_index (a := (some ⟨b17, 0, none⟩)) (n := (wordsOf gw gi gb).toNat) (z := ((placeOf 8 gw gi gb 1) + 1)) (size := 1) (((placeOf 8 gw gi gb 1) + 1).toNat) (by omega) hk75 (kU64.addr (St.kcells kU64 hs74 0 rfl) hk76) (by kernel_rfl)) ?_
  refine ops_storeK kU64 (j := 0) (vs := [(.int .u64 1)]) 0 1 hs74 hk76 (Nat.le_of_ble_eq_true rfl) (by simp) rfl rfl (by kernel_rfl) (fun w77 hs78 => ?_)
  refine zD (hK71 _ _ ?_)
  refine W.sr fun K80 hK80 => ?_
  refine zE 2 (hK80 _ _ ?_)
  refine W.ret ?_
  have hs81 := St.tk1 hs78
  have e_ : (((((((((List.replicate ((wordsOf gw gi gb).toNat) (0 : Int)).set 0 32762617960297063).set 1 gw).set 2 gi).set 3 gb).set ((placeOf 6 gw gi gb 0).toNat) 3).set ((placeOf 7 gw gi gb 0).toNat) 1).set ((placeOf 8 gw gi gb 1).toNat) 2).set (((placeOf 8 gw gi gb 1) + 1).toNat) 1) = fmtW gw gi gb := (if_pos hm).symm
  have hs_ := hs81
  rw [e_] at hs_
  refine ret_of (.slice (some ⟨b17, 0, none⟩) ((wordsOf gw gi gb).toNat) ((wordsOf gw gi gb).toNat)) (by kernel_rfl) ⟨_, ⟨(some ⟨b17, 0, none⟩), (wordsOf gw gi gb).toNat, by rw [fmtW_len], rfl⟩, hs_⟩

theorem small_spec {x_ y_ : Int} (B : Nat) (w : World) (hx : 0 ≤ x_ ∧ x_ ≤ 255) (hy : 0 ≤ y_ ∧ y_ ≤ 255) : Spec Tryd.prog 39 #[(.int .u8 x_), (.int .u8 y_)] B w [] (fun v H' => v = .agg #[.int .i64 1, .int .i64 (2 + x_ % 20), .int .i64 (2 + y_ % 60)] ∧ H' = []) := by
 refine spec_Q Tryd.func39 rfl fun hs => ?_
 refine W.sr fun K1 hK1 => ?_
 refine zN [(.int .i64 0), (.int .i64 0), (.int .i64 0)] 63 hs fun b4 w2 hs3 => ?_
 refine zD (hK1 _ _ ?_)
 refine W.sr fun K5 hK5 => ?_
 refine zR 1 ?_
 refine zI x_ (wrap_i64 (by omega) (by omega)) ?_
 obtain ⟨r6, hr7, hl8, he9⟩ := rem_nat (x := x_) (y := 20) (by omega) (by omega)
 refine ops_R (v := .int .i64 (r6 : Int)) (runs_rem (k := .i64) (a := x_) (b := 20) (by kernel_rfl) (by omega) hr7) ?_
 refine zI (2 + (r6 : Int)) (wrap_i64 (by omega) (by omega)) ?_
 refine zR 1 ?_
 refine zI y_ (wrap_i64 (by omega) (by omega)) ?_
 obtain ⟨r10, hr11, hl12, he13⟩ := rem_nat (x := y_) (y := 60) (by omega) (by omega)
 refine ops_R (v := .int .i64 (r10 : Int)) (runs_rem (k := .i64) (a := y_) (b := 60) (by kernel_rfl) (by omega) hr11) ?_
 refine zI (2 + (r10 : Int)) (wrap_i64 (by omega) (by omega)) ?_
 refine zR 1 ?_
 refine ops_store (off := 0) (cs := [(.int .i64 0), (.int .i64 0), (.int .i64 0)]) (vs := [(.int .i64 1), (.int .i64 (2 + (r6 : Int))), (.int .i64 (2 + (r10 : Int)))]) hs3 (by kernel_rfl) (by simp) rfl (fun w14 hs15 => ?_)
 have hs16 : St B w [] w14 [blk b4 (.cells [(.int .i64 1), (.int .i64 (2 + (r6 : Int))), (.int .i64 (2 + (r10 : Int)))].toArray 63 (0, 0))] := hs15
 refine zD (hK5 _ _ ?_)
 refine W.ret ?_
 have hs17 := St.tk0 hs16
 refine ret_of (.agg #[(.int .i64 1), (.int .i64 (2 + (r6 : Int))), (.int .i64 (2 + (r10 : Int)))]) (results_cell (ad := ⟨b4, 0, none⟩) (cs := [(.int .i64 1), (.int .i64 (2 + (r6 : Int))), (.int .i64 (2 + (r10 : Int)))]) rfl (by kernel_rfl) (by kernel_rfl) (cells_sub (hs16.heapAt 0 rfl) rfl)) ⟨_, ⟨by simp only [*], rfl⟩, hs17⟩

end Go.Proofs.YthimamnblklkbaaDoor

set_option maxRecDepth 20000
namespace Go.Proofs.YthimamnblklkbaaDoor
open Go Go.RowKit
set_option linter.unusedSimpArgs false
set_option linter.unusedVariables false

theorem sset_spec {b : Nat} {img : List Int} {l : List (Int × Int)} {at_ x_ : Int} (B : Nat) (w : World) : Spec Tryd.prog 35 #[(.pointer (some ⟨b, 0, none⟩)), (.int .i64 at_), (.int .u64 x_)] B w [viewA (ptr b) img l] (fun v H' => v = .int .i64 (vwrite img l at_ x_).1 ∧ H' = [viewA (ptr b) img (vwrite img l at_ x_).2]) := by
 refine spec_W Tryd.func35 rfl fun l0 hs => ?_
 refine W.sr fun K1 hK1 => ?_
 refine zE 1 (hK1 _ _ ?_)
 refine W.seq fun K2 hK2 => ?_
 refine W.block ?_
 refine W.sr fun K3 hK3 => ?_
 refine zE 3 (hK3 _ _ ?_)
 refine W.cond_false false (by kernel_rfl) rfl ?_
 refine W.seq fun K4 hK4 => ?_
 refine W.sr fun K5 hK5 => ?_
 refine zE 3 (hK5 _ _ ?_)
 refine W.cond (decide (at_ < 0)) (by kernel_rfl) (fun h6 => ?_) (fun h6 => ?_)
 ·
  have h6p := of_decide_eq_true h6
  refine W.skip ?_
  refine hK4 _ _ ?_
  refine W.cond (decide (at_ < 0)) (by kernel_rfl) (fun h7 => ?_) (fun h7 => ?_)
  ·
   have h7p := of_decide_eq_true h7
   refine W.sr fun K8 hK8 => ?_
   refine zE 1 (hK8 _ _ ?_)
   refine W.ret (ret_block (ret_seq ?_))
   have e1_ : (vwrite img l at_ x_).1 = 8 := by first | (exfalso; omega) | (simp only [vwrite]; rw [if_pos (by omega)]) | (simp only [vwrite]; rw [if_neg (by omega), if_pos (by assumption)]) | (simp only [vwrite]; rw [if_neg (by omega), if_neg (by assumption)])
   have e2_ : (vwrite img l at_ x_).2 = l := by first | (exfalso; omega) | (simp only [vwrite]; rw [if_pos (by omega)]) | (simp only [vwrite]; rw [if_neg (by omega), if_pos (by assumption)]) | (simp only [vwrite]; rw [if_neg (by omega), if_neg (by assumption)])
   refine ret_of (.int .i64 8) (by kernel_rfl) ⟨_, ⟨by rw [e1_], by rw [e2_]⟩, hs⟩
  ·
   have h7p := of_decide_eq_false h7
   refine W.sr fun K9 hK9 => ?_
   refine zR 2 ?_
   refine zC00 hs (get_spec (at_ := at_) (hv := (hs.entAt 0 rfl viewA_at)) B _) fun w10 hs12 => ?_
   refine zE 3 (hK9 _ _ ?_)
   refine W.cond (decide ((vget img l at_) = x_)) (by kernel_rfl) (fun h13 => ?_) (fun h13 => ?_)
   ·
    have h13p := of_decide_eq_true h13
    refine W.sr fun K14 hK14 => ?_
    refine zE 1 (hK14 _ _ ?_)
    refine W.ret (ret_block (ret_seq ?_))
    have e1_ : (vwrite img l at_ x_).1 = 0 := by first | (exfalso; omega) | (simp only [vwrite]; rw [if_pos (by omega)]) | (simp only [vwrite]; rw [if_neg (by omega), if_pos (by assumption)]) | (simp only [vwrite]; rw [if_neg (by omega), if_neg (by assumption)])
    have e2_ : (vwrite img l at_ x_).2 = l := by first | (exfalso; omega) | (simp only [vwrite]; rw [if_pos (by omega)]) | (simp only [vwrite]; rw [if_neg (by omega), if_pos (by assumption)]) | (simp only [vwrite]; rw [if_neg (by omega), if_neg (by assumption)])
    refine ret_of (.int .i64 0) (by kernel_rfl) ⟨_, ⟨by rw [e1_], by rw [e2_]⟩, hs12⟩
   ·
    have h13p := of_decide_eq_false h13
    refine W.skip ?_
    refine normal_block ?_
    refine hK2 _ _ ?_
    refine W.sr fun K15 hK15 => ?_
    refine zR 3 ?_
    refine zC11 hs12 (put_spec (p := (.pointer (some ⟨b, 0, none⟩))) (img := img) (l := l) (at_ := at_) (x_ := x_) B _) fun w16 hs18 => ?_
    refine zE 1 (hK15 _ _ ?_)
    refine W.ret ?_
    have e1_ : (vwrite img l at_ x_).1 = (vput img l at_ x_).1 := by first | (exfalso; omega) | (simp only [vwrite]; rw [if_pos (by omega)]) | (simp only [vwrite]; rw [if_neg (by omega), if_pos (by assumption)]) | (simp only [vwrite]; rw [if_neg (by omega), if_neg (by assumption)])
    have e2_ : (vwrite img l at_ x_).2 = (vput img l at_ x_).2 := by first | (exfalso; omega) | (simp only [vwrite]; rw [if_pos (by omega)]) | (simp only [vwrite]; rw [if_neg (by omega), if_pos (by assumption)]) | (simp only [vwrite]; rw [if_neg (by omega), if_neg (by assumption)])
    refine ret_of (.int .i64 ((vput img l at_ x_).1)) (by kernel_rfl) ⟨_, ⟨by rw [e1_], by rw [e2_]⟩, hs18⟩
 ·
  have h6p := of_decide_eq_false h6
  refine W.region ?_
  refine zR 2 ?_
  refine zC00 hs (len_spec (hv := (hs.entAt 0 rfl viewA_at)) B _) fun w19 hs21 => ?_
  refine zE 2 (hK4 _ _ ?_)
  refine W.cond (decide (at_ ≥ (img.length : Int))) (by kernel_rfl) (fun h22 => ?_) (fun h22 => ?_)
  ·
   have h22p := of_decide_eq_true h22
   refine W.sr fun K23 hK23 => ?_
   refine zE 1 (hK23 _ _ ?_)
   refine W.ret (ret_block (ret_seq ?_))
   have e1_ : (vwrite img l at_ x_).1 = 8 := by first | (exfalso; omega) | (simp only [vwrite]; rw [if_pos (by omega)]) | (simp only [vwrite]; rw [if_neg (by omega), if_pos (by assumption)]) | (simp only [vwrite]; rw [if_neg (by omega), if_neg (by assumption)])
   have e2_ : (vwrite img l at_ x_).2 = l := by first | (exfalso; omega) | (simp only [vwrite]; rw [if_pos (by omega)]) | (simp only [vwrite]; rw [if_neg (by omega), if_pos (by assumption)]) | (simp only [vwrite]; rw [if_neg (by omega), if_neg (by assumption)])
   refine ret_of (.int .i64 8) (by kernel_rfl) ⟨_, ⟨by rw [e1_], by rw [e2_]⟩, hs21⟩
  ·
   have h22p := of_decide_eq_false h22
   refine W.sr fun K24 hK24 => ?_
   refine zR 2 ?_
   refine zC00 hs21 (get_spec (at_ := at_) (hv := (hs21.entAt 0 rfl viewA_at)) B _) fun w25 hs27 => ?_
   refine zE 3 (hK24 _ _ ?_)
   refine W.cond (decide ((vget img l at_) = x_)) (by kernel_rfl) (fun h28 => ?_) (fun h28 => ?_)
   ·
    have h28p := of_decide_eq_true h28
    refine W.sr fun K29 hK29 => ?_
    refine zE 1 (hK29 _ _ ?_)
    refine W.ret (ret_block (ret_seq ?_))
    have e1_ : (vwrite img l at_ x_).1 = 0 := by first | (exfalso; omega) | (simp only [vwrite]; rw [if_pos (by omega)]) | (simp only [vwrite]; rw [if_neg (by omega), if_pos (by assumption)]) | (simp only [vwrite]; rw [if_neg (by omega), if_neg (by assumption)])
    have e2_ : (vwrite img l at_ x_).2 = l := by first | (exfalso; omega) | (simp only [vwrite]; rw [if_pos (by omega)]) | (simp only [vwrite]; rw [if_neg (by omega), if_pos (by assumption)]) | (simp only [vwrite]; rw [if_neg (by omega), if_neg (by assumption)])
    refine ret_of (.int .i64 0) (by kernel_rfl) ⟨_, ⟨by rw [e1_], by rw [e2_]⟩, hs27⟩
   ·
    have h28p := of_decide_eq_false h28
    refine W.skip ?_
    refine normal_block ?_
    refine hK2 _ _ ?_
    refine W.sr fun K30 hK30 => ?_
    refine zR 3 ?_
    refine zC11 hs27 (put_spec (p := (.pointer (some ⟨b, 0, none⟩))) (img := img) (l := l) (at_ := at_) (x_ := x_) B _) fun w31 hs33 => ?_
    refine zE 1 (hK30 _ _ ?_)
    refine W.ret ?_
    have e1_ : (vwrite img l at_ x_).1 = (vput img l at_ x_).1 := by first | (exfalso; omega) | (simp only [vwrite]; rw [if_pos (by omega)]) | (simp only [vwrite]; rw [if_neg (by omega), if_pos (by assumption)]) | (simp only [vwrite]; rw [if_neg (by omega), if_neg (by assumption)])
    have e2_ : (vwrite img l at_ x_).2 = (vput img l at_ x_).2 := by first | (exfalso; omega) | (simp only [vwrite]; rw [if_pos (by omega)]) | (simp only [vwrite]; rw [if_neg (by omega), if_pos (by assumption)]) | (simp only [vwrite]; rw [if_neg (by omega), if_neg (by assumption)])
    refine ret_of (.int .i64 ((vput img l at_ x_).1)) (by kernel_rfl) ⟨_, ⟨by rw [e1_], by rw [e2_]⟩, hs33⟩

theorem rset_spec {b : Nat} {img : List Int} {l : List (Int × Int)} {at_ x_ : Int} (B : Nat) (w : World) : Spec Tryd.prog 49 #[(.pointer (some ⟨b, 0, none⟩)), (.int .i64 at_), (.int .u64 x_)] B w [refA (ptr b) img l] (fun v H' => v = .int .i64 (vwrite img l at_ x_).1 ∧ H' = [refA (ptr b) img (vwrite img l at_ x_).2]) := by
 refine spec_W Tryd.func49 rfl fun l0 hs => ?_
 refine W.sr fun K1 hK1 => ?_
 refine zE 1 (hK1 _ _ ?_)
 refine W.seq fun K2 hK2 => ?_
 refine W.seq fun K3 hK3 => ?_
 obtain ⟨⟨_, ia4, ic5, la6, lc7, mn8⟩, ⟨ex9, hok10⟩, hs11⟩ := St.open hs
 have hs12 : St B w l0 w [blk b (.cells [(.slice ia4 img.length ic5), (.slice la6 l.length lc7), (.bool mn8)].toArray 71 (0, 0)), kU64.row ia4 ic5 img, kWr.row la6 lc7 l] := by cases ex9; exact hs11
 have := hok10.many
 refine W.region ?_
 refine zR 3 ?_
 rcases Bool.eq_false_or_eq_true (decide (at_ < 0)) with h13 | h13
 ·
  have h13p := of_decide_eq_true h13
  refine zS 9 h13 ?_
  refine zS 8 h13 ?_
  refine zE 8 ?_
  have hs14 : St B w l0 w [refA (ptr b) img l] := ref_close (l := l) (ia := ia4) (ic := ic5) (la := la6) (lc := lc7) (many := mn8) hok10 hs12
  refine hK3 _ _ ?_
  refine W.cond_true true (by kernel_rfl) rfl ?_
  refine W.sr fun K15 hK15 => ?_
  refine zE 1 (hK15 _ _ ?_)
  refine W.ret (ret_seq ?_)
  have e1_ : (vwrite img l at_ x_).1 = 8 := by first | (exfalso; omega) | (simp only [vwrite]; rw [if_pos (by omega)]) | (simp only [vwrite]; rw [if_neg (by omega), if_pos (by assumption)]) | (simp only [vwrite]; rw [if_neg (by omega), if_neg (by assumption)])
  have e2_ : (vwrite img l at_ x_).2 = l := by first | (exfalso; omega) | (simp only [vwrite]; rw [if_pos (by omega)]) | (simp only [vwrite]; rw [if_neg (by omega), if_pos (by assumption)]) | (simp only [vwrite]; rw [if_neg (by omega), if_neg (by assumption)])
  refine ret_of (.int .i64 8) (by kernel_rfl) ⟨_, ⟨by rw [e1_], by rw [e2_]⟩, hs14⟩
 ·
  have h13p := of_decide_eq_false h13
  refine zS 9 h13 ?_
  refine zS 8 h13 ?_
  refine zR 4 ?_
  refine zL ⟨b, 0, none⟩ (.slice ia4 img.length ic5) (hs12.cellAt 0 rfl rfl) ?_
  refine zE 3 ?_
  have hs16 : St B w l0 w [refA (ptr b) img l] := ref_close (l := l) (ia := ia4) (ic := ic5) (la := la6) (lc := lc7) (many := mn8) hok10 hs12
  refine hK3 _ _ ?_
  refine W.cond (decide (at_ ≥ (img.length : Int))) (by kernel_rfl) (fun h17 => ?_) (fun h17 => ?_)
  ·
   have h17p := of_decide_eq_true h17
   refine W.sr fun K18 hK18 => ?_
   refine zE 1 (hK18 _ _ ?_)
   refine W.ret (ret_seq ?_)
   have e1_ : (vwrite img l at_ x_).1 = 8 := by first | (exfalso; omega) | (simp only [vwrite]; rw [if_pos (by omega)]) | (simp only [vwrite]; rw [if_neg (by omega), if_pos (by assumption)]) | (simp only [vwrite]; rw [if_neg (by omega), if_neg (by assumption)])
   have e2_ : (vwrite img l at_ x_).2 = l := by first | (exfalso; omega) | (simp only [vwrite]; rw [if_pos (by omega)]) | (simp only [vwrite]; rw [if_neg (by omega), if_pos (by assumption)]) | (simp only [vwrite]; rw [if_neg (by omega), if_neg (by assumption)])
   refine ret_of (.int .i64 8) (by kernel_rfl) ⟨_, ⟨by rw [e1_], by rw [e2_]⟩, hs16⟩
  ·
   have h17p := of_decide_eq_false h17
   refine W.skip ?_
   refine hK2 _ _ ?_
   refine W.seq fun K19 hK19 => ?_
   refine W.sr fun K20 hK20 => ?_
   refine zR 2 ?_
   refine zC00 hs16 (rget_spec (at_ := at_) (hv := (hs16.entAt 0 rfl refA_at)) B _) fun w21 hs23 => ?_
   refine zE 2 (hK20 _ _ ?_)
   refine W.cond (decide ((vget img l at_) = x_)) (by kernel_rfl) (fun h24 => ?_) (fun h24 => ?_)
   ·
    have h24p := of_decide_eq_true h24
    refine W.sr fun K25 hK25 => ?_
    refine zE 1 (hK25 _ _ ?_)
    refine W.ret (ret_seq ?_)
    have e1_ : (vwrite img l at_ x_).1 = 0 := by first | (exfalso; omega) | (simp only [vwrite]; rw [if_pos (by omega)]) | (simp only [vwrite]; rw [if_neg (by omega), if_pos (by assumption)]) | (simp only [vwrite]; rw [if_neg (by omega), if_neg (by assumption)])
    have e2_ : (vwrite img l at_ x_).2 = l := by first | (exfalso; omega) | (simp only [vwrite]; rw [if_pos (by omega)]) | (simp only [vwrite]; rw [if_neg (by omega), if_pos (by assumption)]) | (simp only [vwrite]; rw [if_neg (by omega), if_neg (by assumption)])
    refine ret_of (.int .i64 0) (by kernel_rfl) ⟨_, ⟨by rw [e1_], by rw [e2_]⟩, hs23⟩
   ·
    have h24p := of_decide_eq_false h24
    refine W.skip ?_
    refine hK19 _ _ ?_
    refine W.sr fun K26 hK26 => ?_
    refine zR 3 ?_
    refine zC11 hs23 (rput_spec (p := (.pointer (some ⟨b, 0, none⟩))) (img := img) (l := l) (at_ := at_) (x_ := x_) B _) fun w27 hs29 => ?_
    refine zE 1 (hK26 _ _ ?_)
    refine W.ret ?_
    have e1_ : (vwrite img l at_ x_).1 = (vput img l at_ x_).1 := by first | (exfalso; omega) | (simp only [vwrite]; rw [if_pos (by omega)]) | (simp only [vwrite]; rw [if_neg (by omega), if_pos (by assumption)]) | (simp only [vwrite]; rw [if_neg (by omega), if_neg (by assumption)])
    have e2_ : (vwrite img l at_ x_).2 = (vput img l at_ x_).2 := by first | (exfalso; omega) | (simp only [vwrite]; rw [if_pos (by omega)]) | (simp only [vwrite]; rw [if_neg (by omega), if_pos (by assumption)]) | (simp only [vwrite]; rw [if_neg (by omega), if_neg (by assumption)])
    refine ret_of (.int .i64 ((vput img l at_ x_).1)) (by kernel_rfl) ⟨_, ⟨by rw [e1_], by rw [e2_]⟩, hs29⟩

theorem rall_spec {b : Nat} {img : List Int} {l : List (Int × Int)} {at_ : Int} {la : Option Addr} {n lc : Nat} {ws : List Int} (B : Nat) (w : World) (hn : n = ws.length) (hsz : ws.length ≤ 1000000) (hat : -1 ≤ at_ ∧ at_ ≤ 1000000) : Spec Tryd.prog 110 #[(.pointer (some ⟨b, 0, none⟩)), (.int .i64 at_), (.slice la n lc)] B w [refA (ptr b) img l, kU64.row la lc ws] (fun v H' => v = .int .i64 (vwrites img at_ l 0 ws).1 ∧ H' = [refA (ptr b) img (vwrites img at_ l 0 ws).2]) := by
 refine spec_W Tryd.func110 rfl fun l0 hs => ?_
 subst hn
 refine W.sr fun K1 hK1 => ?_
 refine zE 1 (hK1 _ _ ?_)
 refine W.seq fun K2 hK2 => ?_
 refine W.sr fun K3 hK3 => ?_
 refine zE 1 (hK3 _ _ ?_)
 refine W.block ?_
 refine W.loop (G := Nat × List (Int × Int)) (fun | (k, m), s_, w_ => (∃ us, s_ = slots 27 [(0, (.pointer (some ⟨b, 0, none⟩))), (1, (.int .i64 at_)), (2, (.slice la ws.length lc)), (7, (.int .i64 (k : Int)))] us) ∧ St B w l0 w_ [refA (ptr b) img m, kU64.row la lc ws] ∧ (k ≤ ws.length) ∧ (vwrites img at_ l 0 ws = vwrites img at_ m (k : Int) (ws.drop k))) (fun | (k, m) => ws.length - k) (0, l) ⟨slots_intro _ (by kernel_rfl), hs, Nat.zero_le _, rfl⟩ ?_
 rintro ⟨k, m⟩ _ w4 ⟨⟨us, rfl⟩, hs5, hk_, hkm⟩
 refine W.seq fun K6 hK6 => ?_
 refine W.sr fun K7 hK7 => ?_
 refine zE 4 (hK7 _ _ ?_)
 refine W.cond (decide ((k : Int) < (ws.length : Int))) (by kernel_rfl) (fun h8 => ?_) (fun h8 => ?_)
 ·
  have h8p := of_decide_eq_true h8
  refine W.skip ?_
  refine hK6 _ _ ?_
  refine W.seq fun K9 hK9 => ?_
  refine W.block ?_
  refine W.sr fun K10 hK10 => ?_
  refine zR 3 ?_
  refine zI (at_ + (k : Int)) (wrap_i64 (by omega) (by omega)) ?_
  refine zR 2 ?_
  have hk11 : k < ws.length := by omega
  refine ops_R (runs_index (a := la) (n := ws.length) (z := (k : Int)) (size := 1) k rfl hk11 (kU64.addr (St.kcells kU64 hs5 1 rfl) hk11) (by kernel_rfl)) ?_
  refine zL ((adr la (k * 1)).add 0) (.int .u64 (ws.getD k 0)) (kU64.at (St.kcells kU64 hs5 1 rfl) hk11 0 0 rfl) ?_
  refine zC11 hs5 (rset_spec (b := b) (img := img) (l := m) (at_ := (at_ + (k : Int))) (x_ := (ws.getD k 0)) B _) fun w12 hs14 => ?_
  refine zE 1 (hK10 _ _ ?_)
  refine W.sr fun K15 hK15 => ?_
  refine zE 2 (hK15 _ _ ?_)
  refine W.cond (!decide ((vwrite img m (at_ + (k : Int)) (ws.getD k 0)).1 = 0)) (by kernel_rfl) (fun h16 => ?_) (fun h16 => ?_)
  ·
   have h16p : ¬ ((vwrite img m (at_ + (k : Int)) (ws.getD k 0)).1 = 0) := of_decide_eq_false (bnot_true h16)
   refine W.sr fun K17 hK17 => ?_
   refine zE 2 (hK17 _ _ ?_)
   refine W.ret (ret_block (ret_seq (ret_seq (ret_block (ret_seq ?_)))))
   have hs18 := St.tk1 hs14
   have e_ : vwrites img at_ l 0 ws = vwrite img m (at_ + (k : Int)) (ws.getD k 0) := hkm.trans ((vwrites_step (by omega)).trans (if_neg (by assumption)))
   refine ret_of (.int .i64 ((vwrite img m (at_ + (k : Int)) (ws.getD k 0)).1)) (by kernel_rfl) ⟨_, ⟨by rw [e_], by rw [e_]⟩, hs18⟩
  ·
   have h16p : (vwrite img m (at_ + (k : Int)) (ws.getD k 0)).1 = 0 := of_decide_eq_true (bnot_false h16)
   refine W.skip ?_
   refine normal_block ?_
   refine hK9 _ _ ?_
   refine W.region ?_
   refine zR 1 ?_
   refine ops_val (v := .int .i64 (IntKind.i64.wrap ((k : Int) + 1))) (v' := .int .i64 ((k + 1 : Nat) : Int)) (by kernel_rfl) (congrArg (Value.int .i64) (wrap_i64 (by omega) (by omega))) ?_
   refine zE 1 ?_
   have e0_ : (vwrite img m (at_ + (k : Int)) (ws.getD k 0)).1 = 0 := by assumption
   have hk2 := (vwrites_step (img := img) (at_ := at_) (m := m) (ws := ws) (k := k) (by omega)).trans (if_pos e0_)
   exact ⟨(k + 1, (vwrite img m (at_ + (k : Int)) (ws.getD k 0)).2), ⟨slots_intro _ (by kernel_rfl), hs14, by omega, hkm.trans hk2⟩, by first | omega | (dsimp only; omega)⟩
 ·
  have h8p := of_decide_eq_false h8
  refine W.exit (exit_seq (exit_seq (exit_here ?_)))
  refine hK2 _ _ ?_
  refine W.sr fun K19 hK19 => ?_
  refine zE 1 (hK19 _ _ ?_)
  refine W.ret ?_
  have hs20 := St.tk1 hs5
  have e_ : vwrites img at_ l 0 ws = (0, m) := hkm.trans (by rw [List.drop_of_length_le (by omega)]; rfl)
  refine ret_of (.int .i64 0) (by kernel_rfl) ⟨_, ⟨by rw [e_], by rw [e_]⟩, hs20⟩

end Go.Proofs.YthimamnblklkbaaDoor

namespace Go.Proofs.YthimamnblklkbaaDoor
open Go Go.RowKit
set_option linter.unusedSimpArgs false
set_option linter.unusedVariables false

def kU8 : Kind Int := ⟨5, 1, fun x => [.int .u8 x], by decide, fun _ => rfl, fun _ => rfl⟩
def kBool : Kind Bool := ⟨4, 1, fun x => [.bool x], by decide, fun _ => rfl, fun _ => rfl⟩
end Go.Proofs.YthimamnblklkbaaDoor

namespace Go.Proofs.YthimamnblklkbaaDoor
open Go Go.RowKit

def YSpec (P : Program) (l : Nat) (args : Array Value) (B : Nat) (w : World) (pre : List Asn) (post : Value → List Asn → Prop) : Prop :=
  ∀ lf, B ≤ w.heap.size → Sep B w pre lf → ∃ f tmps assign body, (Instr.yield l args).run P w = .ok (.round l f tmps assign body) w ∧
    RoundIn (fen none) 0 P l f tmps assign body w (fun e w' => ∃ v, e = .returned v ∧ ∃ H' l', post v H' ∧ Sep B w' H' l' ∧ Upd w w' lf l')

section
variable {P : Program} {ops : Array Oper} {i : Nat} {s : Fs} {w : World} {K : Fs → World → Prop}

def yieldQ (ops : Array Oper) (i : Nat) (s : Fs) : Option (Nat × Array Value) :=
  match opQ ops i s with
  | some o => match o.op with
    | .call { callee := .value x, args := ags, .. } => match evS s x with
      | .func (.yield l) ⟨[]⟩ ⟨[]⟩ => some (l, ags.map (evS s))
      | _ => none
    | _ => none
  | none => none

theorem ops_yield {B : Nat} {w0 : World} {l0 : List Nat} {pre R : List Asn} {l : Nat} {args : Array Value} {post : Value → List Asn → Prop} (hs : St B w0 l0 w (pre ++ R)) (hr : s.r = none)
    (hq : yieldQ ops i s = some (l, args)) (hy : YSpec P l args B w pre post)
    (hk : ∀ v H' w', post v H' → St B w0 l0 w' (H' ++ R) → OpsAt true P ops (i + 1) (putS s (dstOf ops i) v) w' K) : OpsAt true P ops i s w K := by
  unfold yieldQ at hq
  split at hq
  · rename_i o ho
    obtain ⟨h1, h2, h3, h4⟩ := opQ_some' ho
    rw [h3] at hk
    split at hq
    · rename_i x ags tys hop
      split at hq
      · rename_i l' hx
        simp only [Option.some.injEq, Prod.mk.injEq] at hq
        obtain ⟨rfl, rfl⟩ := hq
        have hB := hs.size
        obtain ⟨l1, s1, key⟩ := hs.part
        obtain ⟨f, tmps, assign, body, hyr, hrd⟩ := hy l1 hB s1
        refine ⟨fun x' hx' T hT => ?_⟩
        rw [range_cons h1]
        simp only [wpM, wpOpsIn, h1, yield_rel hx', h2, if_true]
        refine ⟨fun _ _ => trivial, ?_⟩
        rw [Oper.semAt_eq _ _ _ (by intro c hc; rw [hop] at hc; cases hc), ev_rel hx']
        have hrun : (execOp (evS s) o).run P w = .ok (.round l' f tmps assign body) w := by
          simp [execOp, hop, resolve, hx, invoke, go_sem]
          exact hyr
        rw [hrun, hr]
        refine ⟨fen_depth, RoundIn.mono hrd ?_⟩
        rintro e w' ⟨v, rfl, H', l2, hp, hsep, hu⟩
        have h5 := (hk v H' w' hp (key w' H' l2 hsep hu)).out _ (rel_put hx' h4 v) T (fun y w' ⟨s', a, b, c⟩ => hT y w' ⟨s', a, b.trans (put_r _ _ _), c⟩)
        rw [put_r, hr] at h5
        exact h5
      · cases hq
    · cases hq
  · cases hq
end

def roundQ (B : Nat) (w : World) (lf : List Nat) (l : Nat) (rc : Loop) (post : Value → List Asn → Prop) : Exit → Fs → World → Prop
  | .normal, _, w3 => ∃ Y', St B w lf w3 (blk l (.loop { rc with state := .busy }) :: Y') ∧ post (.bool true) (blk l (.loop { rc with state := .ready, pending := none }) :: Y')
  | .ret, _, w3 => ∃ Y', St B w lf w3 (blk l (.loop { rc with state := .busy }) :: Y') ∧ post (.bool false) (blk l (.loop { rc with state := .done, pending := some .ret }) :: Y')
  | .exit id, _, w3 => ∃ Y', St B w lf w3 (blk l (.loop { rc with state := .busy }) :: Y') ∧ post (.bool false) (blk l (.loop { rc with state := .done, pending := some (.exit id) }) :: Y')
  | _, _, _ => False

theorem putObj_blk {B : Nat} {w0 w : World} {l0 : List Nat} {R : List Asn} {l : Nat} {o : Obj} (o' : Obj) (hs : St B w0 l0 w (blk l o :: R)) : St B w0 l0 (w.putObj l o') (blk l o' :: R) := by
  refine St.step1 (post := [blk l o']) hs ?_
  rintro lf ⟨h1, h2, rfl⟩
  have hlt := (Array.getElem?_eq_some_iff.1 h2).1
  refine ⟨[l], ⟨[l], [], ⟨h1, World.putObj_heap_same hlt, rfl⟩, fun b => by simp, fun b _ => by simp, by simp⟩, rfl, rfl, rfl, by simp, ?_, fun b h => .inl h⟩
  intro b _ hb
  simp only [List.mem_singleton] at hb
  exact World.putObj_heap_other hb

theorem St.head {B : Nat} {w0 w : World} {l0 : List Nat} {R : List Asn} {l : Nat} {o : Obj} (hs : St B w0 l0 w (blk l o :: R)) : w.heap[l]? = some o := hs.heapAt 0 rfl

theorem yspec_round {P : Program} {B : Nat} {w : World} {l : Nat} {rc : Loop} {Y : List Asn} {args : Array Value} {post : Value → List Asn → Prop} (hst : rc.state = .ready) (hsz : args.size = rc.params.size)
    (s0 : Fs) (hs0 : Rel ⟨(rc.params.zip args).foldl (fun tmps (t, a) => tmps.setIfInBounds t a) rc.tmps, []⟩ s0) (hr0 : s0.r = some l)
    (walk : ∀ lf, St B w lf w (blk l (.loop rc) :: Y) → ∀ K : Fs → World → Prop, (∀ s' w1, St B w lf w1 (blk l (.loop rc) :: Y) →
      (∀ w2, St B w lf w2 (blk l (.loop { rc with state := .busy }) :: Y) → W P rc.body s' w2 (roundQ B w lf l rc post)) → K s' w1) → W P rc.assign s0 w (seqQ K (fun _ _ _ => False))) :
    YSpec P l args B w (blk l (.loop rc) :: Y) post := by
  intro lf hB hsep
  have hst0 : St B w lf w (blk l (.loop rc) :: Y) := St.begin hB hsep
  refine ⟨rc.fn, _, rc.assign, rc.body, run_yield hst0.head hsz, roundIn_of_wpIn trivial ?_⟩
  have hw := (walk lf hst0 (fun s' w1 => St B w lf w1 (blk l (.loop rc) :: Y) ∧ ∀ w2, St B w lf w2 (blk l (.loop { rc with state := .busy }) :: Y) → W P rc.body s' w2 (roundQ B w lf l rc post)) (fun s' w1 h1 h2 => ⟨h1, h2⟩)).out _ hs0
  rw [hr0] at hw
  refine wpIn_mono hw ?_
  rintro e x w1 ⟨s', hx, hsr, hq⟩
  cases e with
  | normal =>
    obtain ⟨h1, h2⟩ := (show St B w lf w1 (blk l (.loop rc) :: Y) ∧ _ from hq)
    refine ⟨_, run_beginRound h1.head hst, ?_⟩
    have h3 := (h2 _ (putObj_blk (.loop { rc with state := .busy }) h1)).out x hx
    rw [hsr] at h3
    refine wpIn_mono h3 ?_
    have fin : ∀ (jump : Option Code) (w3 : World) (Y' : List Asn) (v : Value), v = .bool jump.isNone → St B w lf w3 (blk l (.loop { rc with state := .busy }) :: Y') →
        post v (blk l (.loop { rc with state := if jump.isNone then .ready else .done, pending := jump }) :: Y') →
        ∃ v w', (Instr.endRound l jump).run P w3 = .ok v w' ∧ ∃ v', Ending.returned v = .returned v' ∧ ∃ H' l', post v' H' ∧ Sep B w' H' l' ∧ Upd w w' lf l' := by
      intro jump w3 Y' v hv hs3 hp
      have hs4 := putObj_blk (.loop { rc with state := if jump.isNone then .ready else .done, pending := jump }) hs3
      obtain ⟨_, _, l', hsep', hu⟩ := hs4
      subst hv
      exact ⟨_, _, run_endRound jump hs3.head, _, rfl, _, l', hp, hsep', hu⟩
    rintro e y w3 ⟨s3, hy, hs3, hq3⟩
    cases e with
    | normal => obtain ⟨Y', ha, hb⟩ := hq3; exact fin none w3 Y' _ rfl ha hb
    | ret => obtain ⟨Y', ha, hb⟩ := hq3; exact fin (some .ret) w3 Y' _ rfl ha hb
    | exit id => obtain ⟨Y', ha, hb⟩ := hq3; exact fin (some (.exit id)) w3 Y' _ rfl ha hb
    | _ => exact hq3.elim
  | _ => exact hq.elim

def Fs.mark (s : Fs) (D : Nat) : Fs := ⟨s.n, s.f, s.r, { target := .collected D, args := #[] } :: s.d⟩

theorem W.rangeFunc {P : Program} {s : Fs} {w : World} {Q : Exit → Fs → World → Prop} {B : Nat} {w0 : World} {l0 : List Nat} {g : Operand} {ps : Array Tmp} {assign body : Code} {gf : Nat} {lb : Array Value} {pre R : List Asn}
    {post : Loop → Nat → Value → List Asn → Prop}
    (hs : St B w0 l0 w (pre ++ R)) (hr : s.r = none) (hg : evS s g = .func (.func gf) #[] lb) (hf : ∀ args w, (callFunc gf args).run P w = .ok (.enter gf args) w)
    (hc : ∀ (rc : Loop) (l : Nat) (w1 : World), rc.tmps.size = s.n → (∀ i, rc.tmps.getD i undef = s.f i) → rc.state = .ready → rc.pending = none → rc.params = ps → rc.assign = assign → rc.body = body →
      St B w0 l0 w1 (blk l (.loop rc) :: blk rc.defers (.deferred (some [])) :: (pre ++ R)) → Spec P gf (#[.func (.yield l) #[] #[]] ++ lb) B w1 (blk l (.loop rc) :: pre) (post rc l))
    (hk : ∀ (rc : Loop) (l : Nat) (v : Value) (H' : List Asn), post rc l v H' → ∃ rc' H'', rc'.state ≠ .busy ∧ rc'.defers = rc.defers ∧ H' = blk l (.loop rc') :: H'' ∧
      ∀ w3, St B w0 l0 w3 (blk rc.defers (.deferred (some [])) :: (H'' ++ R)) → match rc'.pending with
        | none => Q .normal (s.mark rc.defers) w3
        | some c => W P c (s.mark rc.defers) w3 Q) : W P (.rangeFunc g ps assign body) s w Q := by
  refine ⟨fun x hx => ?_⟩
  rw [hr]
  refine wpIn_rangeFunc ?_
  intro fn _
  obtain ⟨rc, hrc⟩ : ∃ rc : Loop, rc = { state := .ready, pending := none, fn, tmps := x.tmps, params := ps, assign, body, defers := w.heap.size } := ⟨_, rfl⟩
  have hB := hs.size
  have hs1 : St B w0 l0 (w.alloc (.deferred (some []))) (blk w.heap.size (.deferred (some [])) :: (pre ++ R)) := by
    refine St.step0 (post := [blk w.heap.size (.deferred (some []))]) hs ⟨[w.heap.size], ⟨[w.heap.size], [], ⟨hB, heap_alloc_new w _, rfl⟩, fun c => by simp, fun c _ => by simp, by simp⟩, rfl, rfl, rfl, by simp, fun c hc _ => Below.heap_alloc _ _ _ hc, fun c hc => .inr (by simp only [List.mem_singleton] at hc; omega)⟩
  have hB1 := hs1.size
  have hs2 : St B w0 l0 ((w.alloc (.deferred (some []))).alloc (.loop rc)) (blk (w.heap.size + 1) (.loop rc) :: blk w.heap.size (.deferred (some [])) :: (pre ++ R)) := by
    have e : (w.alloc (.deferred (some []))).heap.size = w.heap.size + 1 := by simp
    have hn := heap_alloc_new (w.alloc (.deferred (some []))) (.loop rc)
    rw [e] at hn hB1
    refine St.step0 (post := [blk (w.heap.size + 1) (.loop rc)]) hs1 ⟨[w.heap.size + 1], ⟨[w.heap.size + 1], [], ⟨hB1, hn, rfl⟩, fun c => by simp, fun c _ => by simp, by simp⟩, rfl, rfl, rfl, by simp, fun c hc _ => Below.heap_alloc _ _ _ hc, fun c hc => .inr (by simp only [List.mem_singleton] at hc; omega)⟩
  have hrd : rc.defers = w.heap.size := by rw [hrc]
  have hspec := hc rc (w.heap.size + 1) _ (by rw [hrc]; exact hx.1.1) (by rw [hrc]; exact hx.2) (by rw [hrc]) (by rw [hrc]) (by rw [hrc]) (by rw [hrc]) (by rw [hrc]) (by rw [hrd]; exact hs2)
  have hperm : (blk (w.heap.size + 1) (.loop rc) :: blk w.heap.size (.deferred (some [])) :: (pre ++ R)).Perm ((blk (w.heap.size + 1) (.loop rc) :: pre) ++ (blk w.heap.size (.deferred (some [])) :: R)) := by
    simp only [List.cons_append]
    exact (List.perm_middle.symm).cons _
  have hs3 := hs2.perm hperm
  obtain ⟨l1, s1, key⟩ := hs3.part
  refine ⟨w.heap.size + 1, [{ target := .collected w.heap.size, args := #[] }], (w.alloc (.deferred (some []))).alloc (.loop rc), { target := .fn (.func gf) lb, args := #[.func (.yield (w.heap.size + 1)) #[] #[]] }, (w.alloc (.deferred (some []))).alloc (.loop rc), gf,
    #[.func (.yield (w.heap.size + 1)) #[] #[]] ++ lb, (w.alloc (.deferred (some []))).alloc (.loop rc), by rw [show (fen none).round = none from rfl, run_enterLoop_outer, ← hrc], ?_, fun _ _ => trivial, ?_, fen_depth, ?_⟩
  · simp only [resolve, ev_rel hx, hg]
    simp [go_sem]
    rfl
  · simp [invoke, go_sem, hf]
  · refine calls_fen (Calls.mono (hspec l1 hs3.size s1) ?_)
    rintro e w3 ⟨v, rfl, H', l', hp, hsep, hu⟩
    obtain ⟨rc', H'', hne, hd, rfl, hfin⟩ := hk rc _ v H' hp
    have hs4 := key w3 _ l' hsep hu
    have hs5 := putObj_blk (.loop { rc' with state := .exhausted }) hs4
    have hs6 := hs5.drop
    have hs7 : St B w0 l0 (w3.putObj (w.heap.size + 1) (.loop { rc' with state := .exhausted })) (blk rc.defers (.deferred (some [])) :: (H'' ++ R)) := by
      rw [hrd]; exact hs6.perm List.perm_middle
    refine ⟨rc'.pending, _, run_endLoop (hs4.heapAt 0 rfl) hne, ?_⟩
    have h8 := hfin _ hs7
    have hrel : Rel { x with defers := [{ target := .collected w.heap.size, args := #[] }] ++ x.defers } (s.mark rc.defers) := by
      refine ⟨⟨hx.1.1, ?_⟩, hx.2⟩
      simp [Fs.mark, hrd, hx.1.2]
    cases hpe : rc'.pending with
    | none => rw [hpe] at h8; exact ⟨_, hrel, hr, h8⟩
    | some c =>
      rw [hpe] at h8
      have h9 := W.out h8 _ hrel
      have hmr : (s.mark rc.defers).r = none := hr
      rw [hmr] at h9
      exact h9

theorem leave_mark {P : Program} {fn : Func} {R : Value → World → Prop} {s : Fs} {B : Nat} {w0 w : World} {l0 : List Nat} {D : Nat} {H : List Asn} {v : Value} (hs : St B w0 l0 w (blk D (.deferred (some [])) :: H))
    (hd : s.d = [{ target := .collected D, args := #[] }]) (hv : ∀ w', St B w0 l0 w' H → (resD fn s).run P w' = .ok v w') (hR : ∀ w', St B w0 l0 w' H → R v w') : Leave P fn R s w := by
  refine ⟨?_⟩
  rw [hd]
  have h := (putObj_blk (.deferred none) hs).drop
  exact ⟨D, _, rfl, run_takeDeferred hs.head, v, hv _ h, hR _ h⟩

def scalarB (P : Program) (t : TypeId) : Bool :=
  match P.underlying t with
  | some (.struct _) => false
  | some (.array _ _) => false
  | some _ => true
  | none => false

theorem run_loadVar_cell {P : Program} {w : World} {t : TypeId} {ad : Addr} {v : Value} (ht : scalarB P t = true) (hc : w.cell? ad = some v) : (loadVar t ad).run P w = .ok v w := by
  unfold scalarB at ht
  split at ht
  · cases ht
  · cases ht
  · rename_i d h1 h2 hu
    have hag : (isAgg t).run P w = .ok false w := by
      unfold isAgg
      rw [Sem.run_bind, run_underlying hu]
      simp only [Result.andThen_ok]
      cases d <;> first | rfl | exact (h1 _ rfl).elim | exact (h2 _ _ rfl).elim
    simp only [loadVar, Sem.run_bind, Result.andThen_ok, hag, load]
    simp [Sem.run, hc]
  · cases ht

inductive ResAt (P : Program) (s : Fs) (w : World) : ResultVar → Value → Prop
  | tmp {t : Tmp} {v : Value} (h : s.f t = v) : ResAt P s w (.tmp t) v
  | cell {a : Tmp} {t : TypeId} {ad : Addr} {v : Value} (ha : s.f a = .pointer (some ad)) (ht : scalarB P t = true) (hc : w.cell? ad = some v) : ResAt P s w (.cell a t) v
  | agg {a : Tmp} {t : TypeId} {ad : Addr} {cs : List Value} (ha : s.f a = .pointer (some ad)) (hz : aggSize P t = some cs.length) (hc : ∀ j v, cs[j]? = some v → w.cell? (ad.add j) = some v) : ResAt P s w (.cell a t) (.agg cs.toArray)

theorem ResAt.run {P : Program} {s : Fs} {w : World} {r : ResultVar} {v : Value} (h : ResAt P s w r v) :
    (resF s r).run P w = .ok v w := by
  cases h with
  | tmp h => subst h; rfl
  | cell ha ht hc => simp [resF, ha, asAddr, run_loadVar_cell ht hc]
  | agg ha hz hc => simp [resF, ha, asAddr, run_loadVar_agg hz hc]

theorem resD_one {P : Program} {s : Fs} {w : World} {fn : Func} {r : ResultVar} {v : Value} (hr : fn.results = #[r]) (h : ResAt P s w r v) : (resD fn s).run P w = .ok v w := by
  have h1 := h.run
  unfold resD
  rw [hr]
  simp [h1]
theorem resD_two {P : Program} {s : Fs} {w : World} {fn : Func} {r q : ResultVar} {v u : Value} (hr : fn.results = #[r, q]) (h : ResAt P s w r v) (h' : ResAt P s w q u) : (resD fn s).run P w = .ok (.tuple #[v, u]) w := by
  have h1 := h.run
  have h2 := h'.run
  unfold resD
  rw [hr]
  simp [Sem.run_bind, h1, h2]
theorem resS_of {P : Program} {s : Fs} {w : World} {fn : Func} {v : Value} (hd : s.d = []) (h : (resD fn s).run P w = .ok v w) : (resS fn s).run P w = .ok v w := by
  unfold resS
  rw [hd]
  exact h

def YA {G : Type} (l : Nat) (rc : Loop) (F : G → Prop) (Hs : G → List Asn) : Asn := exA F (fun x => blk l (.loop rc) :: Hs x)

theorem sep_exA {G : Type} {B : Nat} {w : World} {l : List Nat} {F : G → Prop} {Hs : G → List Asn} (x : G) (hF : F x) (h : Sep B w (Hs x) l) : Sep B w [exA F Hs] l :=
  ⟨l, [], ⟨x, hF, h⟩, fun b => by simp, fun b _ => by simp, by simp⟩

def jumpOf : Exit → Option Code
  | .ret => some .ret
  | .exit id => some (.exit id)
  | _ => none

def rq {G GZ : Type} (B : Nat) (w : World) (lf : List Nat) (l : Nat) (rc : Loop) (F' : G → Prop) (Hs : G → List Asn) (c : Code) (FZ : GZ → Prop) (HsZ : GZ → List Asn) : Exit → Fs → World → Prop
  | .normal, _, w3 => ∃ x, F' x ∧ St B w lf w3 (blk l (.loop { rc with state := .busy }) :: Hs x)
  | e, _, w3 => jumpOf e = some c ∧ ∃ z, FZ z ∧ St B w lf w3 (blk l (.loop { rc with state := .busy }) :: HsZ z)

theorem yspec_ghost {G GZ : Type} {P : Program} {B : Nat} {w : World} {l : Nat} {rc : Loop} {args : Array Value} {F F' : G → Prop} {Hs : G → List Asn} {c : Code} {FZ : GZ → Prop} {HsZ : GZ → List Asn}
    (hst : rc.state = .ready) (hpe : rc.pending = none) (hsz : args.size = rc.params.size)
    (s0 : Fs) (hs0 : Rel ⟨(rc.params.zip args).foldl (fun tmps (t, a) => tmps.setIfInBounds t a) rc.tmps, []⟩ s0) (hr0 : s0.r = some l)
    (walk : ∀ x, F x → ∀ lf, St B w lf w (blk l (.loop rc) :: Hs x) → ∀ K : Fs → World → Prop, (∀ s' w1, St B w lf w1 (blk l (.loop rc) :: Hs x) →
      (∀ w2, St B w lf w2 (blk l (.loop { rc with state := .busy }) :: Hs x) → W P rc.body s' w2 (rq B w lf l rc F' Hs c FZ HsZ)) → K s' w1) → W P rc.assign s0 w (seqQ K (fun _ _ _ => False))) :
    YSpec P l args B w [YA l rc F Hs] (fun v H' => (v = .bool true ∧ H' = [YA l rc F' Hs]) ∨ (v = .bool false ∧ H' = [YA l { rc with state := .done, pending := some c } FZ HsZ])) := by
  intro lf hB hsep
  obtain ⟨l1, l2, ⟨x, hF, h1⟩, h2, hd, hm⟩ := hsep
  have hmm : ∀ b, b ∈ lf ↔ b ∈ l1 := fun b => by rw [hm b]; exact ⟨fun h => h.resolve_right (h2 b), .inl⟩
  have key := yspec_round (P := P) (B := B) (w := w) (Y := Hs x) (args := args) (post := fun v H' =>
      (∃ x', F' x' ∧ v = .bool true ∧ H' = blk l (.loop rc) :: Hs x') ∨ (∃ z, FZ z ∧ v = .bool false ∧ H' = blk l (.loop { rc with state := .done, pending := some c }) :: HsZ z)) hst hsz s0 hs0 hr0 (by
    intro lf' hs K hK
    refine walk x hF lf' hs K fun s' w1 h3 h4 => hK s' w1 h3 fun w2 h5 => (h4 w2 h5).mono ?_
    intro e s3 w3 hq
    have hrc : ({ rc with state := .ready, pending := none } : Loop) = rc := by cases rc; simp_all
    cases e with
    | normal =>
      obtain ⟨x', hF', h6⟩ := hq
      exact ⟨_, h6, .inl ⟨x', hF', rfl, by rw [hrc]⟩⟩
    | ret =>
      obtain ⟨hj, z, hz, h6⟩ := hq
      simp only [jumpOf, Option.some.injEq] at hj
      subst hj
      exact ⟨_, h6, .inr ⟨z, hz, rfl, rfl⟩⟩
    | exit id =>
      obtain ⟨hj, z, hz, h6⟩ := hq
      simp only [jumpOf, Option.some.injEq] at hj
      subst hj
      exact ⟨_, h6, .inr ⟨z, hz, rfl, rfl⟩⟩
    | goto t => obtain ⟨hj, _⟩ := hq; cases hj
    | panic t => obtain ⟨hj, _⟩ := hq; cases hj
    | outgrown => obtain ⟨hj, _⟩ := hq; cases hj)
  obtain ⟨f, tmps, assign, body, hy, hrd⟩ := key l1 hB h1
  refine ⟨f, tmps, assign, body, hy, RoundIn.mono hrd ?_⟩
  rintro e w' ⟨v, rfl, H', l', hp, hs', hu⟩
  have hu' : Upd w w' lf l' := ⟨hu.os, hu.tape, hu.output, hu.size, fun b hb hn => hu.block b hb fun h => hn ((hmm b).2 h), fun b hb => (hu.foot b hb).imp (fun h => (hmm b).2 h) id⟩
  rcases hp with ⟨x', hF', rfl, rfl⟩ | ⟨z, hz, rfl, rfl⟩
  · exact ⟨_, rfl, _, l', .inl ⟨rfl, rfl⟩, sep_exA x' hF' hs', hu'⟩
  · exact ⟨_, rfl, _, l', .inr ⟨rfl, rfl⟩, sep_exA z hz hs', hu'⟩

theorem W.rounds {G GZ : Type} {P : Program} {s : Fs} {w : World} {Q : Exit → Fs → World → Prop} {B : Nat} {w0 : World} {l0 : List Nat} {g : Operand} {ps : Array Tmp} {assign body : Code} {gf : Nat} {lb : Array Value}
    (n : Nat) (F : Nat → G → Prop) (Hs : G → List Asn) (c : Code) (FZ : GZ → Prop) (HsZ : GZ → List Asn) (own : List Asn) (enc : Nat → Array Value) (s0 : Nat → Nat → Fs) (x0 : G) (h0 : F 0 x0)
    (hs : St B w0 l0 w (own ++ Hs x0)) (hr : s.r = none) (hg : evS s g = .func (.func gf) #[] lb) (hf : ∀ args w, (callFunc gf args).run P w = .ok (.enter gf args) w) (hsz : ∀ k, (enc k).size = ps.size)
    (hrel : ∀ (a : Array Value) (k l : Nat), a.size = s.n → (∀ i, a.getD i undef = s.f i) → Rel ⟨(ps.zip (enc k)).foldl (fun tmps (t, a) => tmps.setIfInBounds t a) a, []⟩ (s0 k l) ∧ (s0 k l).r = some l)
    (iter : ∀ (l : Nat) (w1 : World) (Y : Nat → Asn) (Z : Asn), (∀ k, k < n → ∀ w', YSpec P l (enc k) B w' [Y k] (fun v H' => (v = .bool true ∧ H' = [Y (k + 1)]) ∨ (v = .bool false ∧ H' = [Z]))) →
      Spec P gf (#[.func (.yield l) #[] #[]] ++ lb) B w1 (own ++ [Y 0]) (fun v H' => v = .tuple #[] ∧ (H' = own ++ [Y n] ∨ H' = own ++ [Z])))
    (round : ∀ (k : Nat), k < n → ∀ (rc : Loop) (l : Nat) (w' : World) (x : G), F k x → ∀ lf, St B w' lf w' (blk l (.loop rc) :: Hs x) → ∀ K : Fs → World → Prop, (∀ s' w1, St B w' lf w1 (blk l (.loop rc) :: Hs x) →
      (∀ w2, St B w' lf w2 (blk l (.loop { rc with state := .busy }) :: Hs x) → W P body s' w2 (rq B w' lf l rc (F (k + 1)) Hs c FZ HsZ)) → K s' w1) → W P assign (s0 k l) w' (seqQ K (fun _ _ _ => False)))
    (done : ∀ D w3 x, F n x → St B w0 l0 w3 (blk D (.deferred (some [])) :: (own ++ Hs x)) → Q .normal (s.mark D) w3)
    (jump : ∀ D w3 z, FZ z → St B w0 l0 w3 (blk D (.deferred (some [])) :: (own ++ HsZ z)) → W P c (s.mark D) w3 Q) : W P (.rangeFunc g ps assign body) s w Q := by
  refine W.rangeFunc (pre := own ++ Hs x0) (R := []) (post := fun rc l v H' => v = .tuple #[] ∧ ((∃ x, F n x ∧ H' = blk l (.loop rc) :: (own ++ Hs x)) ∨ (∃ z, FZ z ∧ H' = blk l (.loop { rc with state := .done, pending := some c }) :: (own ++ HsZ z))) ∧ rc.state = .ready ∧ rc.pending = none) (by simpa using hs) hr hg hf ?_ ?_
  · intro rc l w1 h1 h2 h3 h4 h5 h6 h7 hs1
    have hyy : ∀ k, k < n → ∀ w', YSpec P l (enc k) B w' [YA l rc (F k) Hs] (fun v H' => (v = .bool true ∧ H' = [YA l rc (F (k + 1)) Hs]) ∨ (v = .bool false ∧ H' = [YA l { rc with state := .done, pending := some c } FZ HsZ])) := by
      intro k hk w'
      obtain ⟨hrl, hrr⟩ := hrel rc.tmps k l h1 h2
      rw [← h5] at hrl
      refine yspec_ghost h3 h4 (by rw [h5]; exact hsz k) (s0 k l) hrl hrr ?_
      intro x hF lf hs2
      have hw := round k hk rc l w' x hF lf hs2
      rw [← h6, ← h7] at hw
      exact hw
    have hit := iter l w1 (fun k => YA l rc (F k) Hs) (YA l { rc with state := .done, pending := some c } FZ HsZ) hyy
    intro lf hB hsep
    have st1 : St B w1 lf w1 (blk l (.loop rc) :: (own ++ Hs x0)) := St.begin hB hsep
    have hp1 : (blk l (.loop rc) :: (own ++ Hs x0)).Perm (blk l (.loop rc) :: Hs x0 ++ own) := by
      simp only [List.cons_append]
      exact List.Perm.cons _ List.perm_append_comm
    have st2 := St.close (F := F 0) (Hs := fun x => blk l (.loop rc) :: Hs x) x0 h0 (st1.perm hp1)
    have st3 : St B w1 lf w1 (own ++ [YA l rc (F 0) Hs]) := st2.perm (List.perm_append_singleton _ _).symm
    have st4 : St B w1 lf w1 ((own ++ [YA l rc (F 0) Hs]) ++ []) := by simpa using st3
    obtain ⟨l1, s1, key⟩ := st4.part
    refine Calls.mono (hit l1 hB s1) ?_
    rintro e w3 ⟨v, rfl, H', l', ⟨rfl, hp⟩, hsep', hu⟩
    have fin : ∀ {G' : Type} (rc' : Loop) (F' : G' → Prop) (Hs' : G' → List Asn), H' = own ++ [YA l rc' F' Hs'] → ∃ x, F' x ∧ St B w1 lf w3 (blk l (.loop rc') :: (own ++ Hs' x)) := by
      intro G' rc' F' Hs' hH
      subst hH
      have st5 := key w3 _ l' hsep' hu
      have st6 : St B w1 lf w3 (YA l rc' F' Hs' :: own) := by
        have : ((own ++ [YA l rc' F' Hs']) ++ []).Perm (YA l rc' F' Hs' :: own) := by rw [List.append_nil]; exact List.perm_append_singleton (YA l rc' F' Hs') own
        exact st5.perm this
      obtain ⟨x, hF, st7⟩ := St.open (F := F') (Hs := fun x => blk l (.loop rc') :: Hs' x) st6
      refine ⟨x, hF, st7.perm ?_⟩
      simp only [List.cons_append]
      exact List.Perm.cons _ List.perm_append_comm
    rcases hp with hp | hp
    · obtain ⟨x, hF, _, _, l5, h8, h9⟩ := fin _ _ _ hp
      exact ⟨_, rfl, _, l5, ⟨rfl, .inl ⟨x, hF, rfl⟩, h3, h4⟩, h8, h9⟩
    · obtain ⟨z, hz, _, _, l5, h8, h9⟩ := fin _ _ _ hp
      exact ⟨_, rfl, _, l5, ⟨rfl, .inr ⟨z, hz, rfl⟩, h3, h4⟩, h8, h9⟩
  · rintro rc l v H' ⟨rfl, hp, h3, h4⟩
    rcases hp with ⟨x, hF, rfl⟩ | ⟨z, hz, rfl⟩
    · refine ⟨rc, own ++ Hs x, (fun h => by have h' := h3.symm.trans h; cases h'), rfl, rfl, fun w3 hs3 => ?_⟩
      rw [h4]
      exact done _ w3 x hF (by simpa using hs3)
    · refine ⟨{ rc with state := .done, pending := some c }, own ++ HsZ z, (fun h => by cases h), rfl, rfl, fun w3 hs3 => ?_⟩
      exact jump _ w3 z hz (by simpa using hs3)

theorem rel_round1 {n : Nat} {L : List (Nat × Value)} {us : Nat → Value} {l p : Nat} {v : Value} (hp : p < n) {a : Array Value} (h1 : a.size = n) (h2 : ∀ i, a.getD i undef = look L i (us i)) :
    Rel ⟨((#[p] : Array Tmp).zip #[v]).foldl (fun tmps (t, a) => tmps.setIfInBounds t a) a, []⟩ (slotsD n ((p, v) :: L) us (some l) []) := by
  have h := rel_set h1 h2 hp v
  have e : ((#[p] : Array Tmp).zip #[v]).foldl (fun tmps (t, a) => tmps.setIfInBounds t a) a = a.setIfInBounds p v := by simp [Array.zip]
  rw [e]
  exact ⟨⟨h.1, rfl⟩, h.2⟩
theorem rel_round2 {n : Nat} {L : List (Nat × Value)} {us : Nat → Value} {l p q : Nat} {v u : Value} (hp : p < n) (hq : q < n) {a : Array Value} (h1 : a.size = n) (h2 : ∀ i, a.getD i undef = look L i (us i)) :
    Rel ⟨((#[p, q] : Array Tmp).zip #[v, u]).foldl (fun tmps (t, a) => tmps.setIfInBounds t a) a, []⟩ (slotsD n ((q, u) :: (p, v) :: L) us (some l) []) := by
  have h := rel_set h1 h2 hp v
  have h' := rel_set h.1 h.2 hq u
  have e : ((#[p, q] : Array Tmp).zip #[v, u]).foldl (fun tmps (t, a) => tmps.setIfInBounds t a) a = (a.setIfInBounds p v).setIfInBounds q u := by simp [Array.zip]
  rw [e]
  exact ⟨⟨h'.1, rfl⟩, h'.2⟩

def rounds {σ ρ : Type} (body : Nat → (σ → Option ρ) → σ → Option ρ) (done : σ → Option ρ) : Nat → Nat → σ → Option ρ
  | 0, _, s => done s
  | m + 1, k, s => body k (rounds body done m (k + 1)) s
theorem rounds_at {σ ρ : Type} {body : Nat → (σ → Option ρ) → σ → Option ρ} {done : σ → Option ρ} {n k : Nat} (hk : k < n) (s : σ) : rounds body done (n - k) k s = body k (rounds body done (n - (k + 1)) (k + 1)) s := by
  obtain ⟨m, hm⟩ : ∃ m, n - k = m + 1 := ⟨n - k - 1, by omega⟩
  rw [hm, show n - (k + 1) = m by omega]
  rfl
theorem rounds_end {σ ρ : Type} {body : Nat → (σ → Option ρ) → σ → Option ρ} {done : σ → Option ρ} {n : Nat} (s : σ) : rounds body done (n - n) n s = done s := by
  rw [Nat.sub_self]
  rfl

def Kept (w0 w : World) : Prop := ∀ b, b < w0.heap.size → w.heap[b]? = w0.heap[b]?
theorem Kept.blk {w0 w : World} (h : Kept w0 w) {b : Nat} {o : Obj} (hb : w0.heap[b]? = some o) : w.heap[b]? = some o := by
  rw [h b (Array.getElem?_eq_some_iff.1 hb).1]; exact hb
theorem Kept.cell {w0 w : World} (h : Kept w0 w) {ad : Addr} {v : Value} (hc : w0.cell? ad = some v) : w.cell? ad = some v := by
  have hb := World.block_lt_of_cell? w0 ad hc
  rw [World.cell?_of_block (w := w0) (h ad.block hb)]
  exact hc
theorem Kept.cells {w0 w : World} (h : Kept w0 w) {a : Option Addr} {cs : List Value} (hc : CellsAt a cs w0) : CellsAt a cs w := by
  cases a with
  | none => exact hc
  | some ad => exact fun j v hv => h.cell (hc j v hv)
theorem Kept.map {w0 w : World} (h : Kept w0 w) {b : Nat} {l : List (Int × Int)} (hm : MapAt b l w0) : MapAt b l w := by
  obtain ⟨es, clock, hb, he⟩ := hm
  exact ⟨es, clock, h.blk hb, he⟩
end Go.Proofs.YthimamnblklkbaaDoor

namespace Go.Proofs.YthimamnblklkbaaDoor
open Go Go.RowKit
set_option linter.unusedVariables false

def kStep : Kind (Nat × Nat) := ⟨172, 1, fun x => [.func (.func 144) #[] #[ptr x.1, ptr x.2]], by decide, fun _ => rfl, fun _ => rfl⟩
def boxL : List (Nat × Nat) → List (Int × Int) → List Asn
  | b :: bs, x :: xs => blk b.1 (.cells [.int .i64 x.1].toArray 3 (0, 0)) :: blk b.2 (.cells [.int .u64 x.2].toArray 38 (0, 0)) :: boxL bs xs
  | _, _ => []
def boxesA (bs : List (Nat × Nat)) (xs : List (Int × Int)) : Asn := exA (fun _ : Unit => bs.length = xs.length) (fun _ => boxL bs xs)
def stepsA (a : Option Addr) (c : Nat) (xs : List (Int × Int)) : Asn := exA (fun bs : List (Nat × Nat) => bs.length = xs.length) (fun bs => [kStep.row a c bs, boxesA bs xs])

section
variable {B : Nat} {w0 w : World} {l0 : List Nat} {R : List Asn}
theorem St.steps_open {a : Option Addr} {c : Nat} {xs : List (Int × Int)} (h : St B w0 l0 w (stepsA a c xs :: R)) : ∃ bs : List (Nat × Nat), bs.length = xs.length ∧ St B w0 l0 w (kStep.row a c bs :: boxesA bs xs :: R) := by
  obtain ⟨bs, hb, h'⟩ := St.open h
  exact ⟨bs, hb, h'⟩
theorem St.steps_close {a : Option Addr} {c : Nat} {bs : List (Nat × Nat)} {xs : List (Int × Int)} (hb : bs.length = xs.length) (h : St B w0 l0 w (kStep.row a c bs :: boxesA bs xs :: R)) : St B w0 l0 w (stepsA a c xs :: R) :=
  St.close (F := fun bs : List (Nat × Nat) => bs.length = xs.length) (Hs := fun bs => [kStep.row a c bs, boxesA bs xs]) bs hb h
theorem St.boxes_nil (h : St B w0 l0 w R) : St B w0 l0 w (boxesA [] [] :: R) :=
  St.close (F := fun _ : Unit => ([] : List (Nat × Nat)).length = ([] : List (Int × Int)).length) (Hs := fun _ => boxL [] []) () rfl h
theorem boxL_append : ∀ (bs cs : List (Nat × Nat)) (xs ys : List (Int × Int)), bs.length = xs.length → boxL (bs ++ cs) (xs ++ ys) = boxL bs xs ++ boxL cs ys
  | [], cs, [], ys, _ => rfl
  | b :: bs, cs, x :: xs, ys, h => by
    simp only [List.cons_append, boxL, boxL_append bs cs xs ys (by simpa using h)]
  | [], _, _ :: _, _, h => by simp at h
  | _ :: _, _, [], _, h => by simp at h
theorem St.boxes_push {bs : List (Nat × Nat)} {xs : List (Int × Int)} {b1 b2 : Nat} {x y : Int} (h : St B w0 l0 w (boxesA bs xs :: blk b1 (.cells [.int .i64 x].toArray 3 (0, 0)) :: blk b2 (.cells [.int .u64 y].toArray 38 (0, 0)) :: R)) :
    St B w0 l0 w (boxesA (bs ++ [(b1, b2)]) (xs ++ [(x, y)]) :: R) := by
  obtain ⟨_, hb, h'⟩ := St.open h
  refine St.close (F := fun _ : Unit => (bs ++ [(b1, b2)]).length = (xs ++ [(x, y)]).length) (Hs := fun _ => boxL (bs ++ [(b1, b2)]) (xs ++ [(x, y)])) () (by simp [hb]) ?_
  have e := boxL_append bs [(b1, b2)] xs [(x, y)] hb
  show St B w0 l0 w (boxL (bs ++ [(b1, b2)]) (xs ++ [(x, y)]) ++ R)
  rw [e, List.append_assoc]
  exact h'
theorem sep_boxL {B : Nat} {w : World} : ∀ {bs : List (Nat × Nat)} {xs : List (Int × Int)} {l : List Nat}, bs.length = xs.length → Sep B w (boxL bs xs) l → ∀ k, k < xs.length →
    w.heap[(bs.getD k (0, 0)).1]? = some (.cells [.int .i64 (xs.getD k (0, 0)).1].toArray 3 (0, 0)) ∧ w.heap[(bs.getD k (0, 0)).2]? = some (.cells [.int .u64 (xs.getD k (0, 0)).2].toArray 38 (0, 0))
  | [], [], _, _, _, k, hk => by simp at hk
  | b :: bs, x :: xs, l, h, hs, k, hk => by
    obtain ⟨l1, l2, h1, h2, _, _⟩ := hs
    obtain ⟨l3, l4, h3, h4, _, _⟩ := h2
    cases k with
    | zero => exact ⟨h1.2.1, h3.2.1⟩
    | succ k => exact sep_boxL (bs := bs) (xs := xs) (by simpa using h) h4 k (by simpa using hk)
  | [], _ :: _, _, h, _, _, _ => by simp at h
  | _ :: _, [], _, h, _, _, _ => by simp at h
theorem boxes_at {bs : List (Nat × Nat)} {xs : List (Int × Int)} {B : Nat} {w : World} {l : List Nat} (h : (boxesA bs xs).P B w l) : ∀ k, k < xs.length →
    w.heap[(bs.getD k (0, 0)).1]? = some (.cells [.int .i64 (xs.getD k (0, 0)).1].toArray 3 (0, 0)) ∧ w.heap[(bs.getD k (0, 0)).2]? = some (.cells [.int .u64 (xs.getD k (0, 0)).2].toArray 38 (0, 0)) := by
  obtain ⟨_, hb, hs⟩ := h
  exact sep_boxL hb hs
theorem St.steps_nil (h : St B w0 l0 w R) : St B w0 l0 w (stepsA none 0 [] :: R) := St.steps_close (bs := []) rfl (St.knil kStep (St.boxes_nil h))
theorem St.steps_three {sb b1 b2 b3 b4 b5 b6 : Nat} {x1 x2 x3 y1 y2 y3 : Int} (h : St B w0 l0 w (blk sb (.cells [.func (.func 144) #[] #[ptr b1, ptr b2], .func (.func 144) #[] #[ptr b3, ptr b4], .func (.func 144) #[] #[ptr b5, ptr b6]].toArray 172 (0, 0)) ::
      blk b1 (.cells [.int .i64 x1].toArray 3 (0, 0)) :: blk b2 (.cells [.int .u64 y1].toArray 38 (0, 0)) :: blk b3 (.cells [.int .i64 x2].toArray 3 (0, 0)) :: blk b4 (.cells [.int .u64 y2].toArray 38 (0, 0)) :: blk b5 (.cells [.int .i64 x3].toArray 3 (0, 0)) :: blk b6 (.cells [.int .u64 y3].toArray 38 (0, 0)) :: R)) :
    St B w0 l0 w (stepsA (some ⟨sb, 0, none⟩) 3 [(x1, y1), (x2, y2), (x3, y3)] :: R) := by
  have h1 := St.kblk kStep [(b1, b2), (b3, b4), (b5, b6)] h rfl rfl (by simp only [List.length_cons, List.length_nil]; decide)
  have h2 := St.boxes_push (St.f2 (St.f3 (St.f3 (St.boxes_nil h1))))
  have h3 := St.boxes_push (St.f2 (St.f3 (St.f3 h2)))
  have h4 := St.boxes_push (St.f2 (St.f3 (St.f3 h3)))
  exact St.steps_close (bs := [(b1, b2), (b3, b4), (b5, b6)]) rfl (St.f1 h4)
end

section
variable {M : Bool} {P : Program} {ops : Array Oper} {i : Nat} {s : Fs} {w w' : World} {K : Fs → World → Prop}
theorem ops_appendSteps {B : Nat} {w0 : World} {l0 : List Nat} {R : List Asn} {bytes : Nat} {a : Option Addr} {c sb b1 b2 : Nat} {xs : List (Int × Int)} {x y : Int}
    (hs : St B w0 l0 w (stepsA a c xs :: blk sb (.cells [.func (.func 144) #[] #[ptr b1, ptr b2]].toArray 172 (0, 0)) :: blk b1 (.cells [.int .i64 x].toArray 3 (0, 0)) :: blk b2 (.cells [.int .u64 y].toArray 38 (0, 0)) :: R))
    (hq : appQ P ops i s kStep.e = some ((a, xs.length, c), (some ⟨sb, 0, none⟩, 1, 1), 1, bytes)) (h63 : xs.length + 1 ≤ maxLen) (hb : (xs.length + 1) * bytes ≤ 140737488355328)
    (hk : ∀ a'' c'' w', St B w0 l0 w' (stepsA a'' c'' (xs ++ [(x, y)]) :: R) → OpsAt M P ops (i + 1) (putS s (dstOf ops i) (.slice a'' (xs ++ [(x, y)]).length c'')) w' K) : OpsAt M P ops i s w K := by
  obtain ⟨bs, hbs, h1⟩ := St.steps_open hs
  rw [← hbs] at hq h63 hb
  have h2 := St.f2 h1
  refine ops_appendK kStep (a := a) (a' := some ⟨sb, 0, none⟩) (c := c) (c' := 1) (l := bs) (m := [(b1, b2)]) h1 hq (by simp) (cells_blk (h2.heapAt 0 rfl)) h63 hb fun a'' c'' w' h3 => ?_
  have e : (bs ++ [(b1, b2)]).length = (xs ++ [(x, y)]).length := by simp [hbs]
  rw [e]
  refine hk a'' c'' w' ?_
  have h4 := St.boxes_push (St.f3 (St.f4 (St.f4 h3)))
  exact St.steps_close e (St.f1 (St.drop (St.f2 h4)))

theorem ops_appendSteps2 {B : Nat} {w0 : World} {l0 : List Nat} {R : List Asn} {bytes : Nat} {a : Option Addr} {c sb b1 b2 b3 b4 : Nat} {xs : List (Int × Int)} {x y x' y' : Int}
    (hs : St B w0 l0 w (stepsA a c xs :: blk sb (.cells [.func (.func 144) #[] #[ptr b1, ptr b2], .func (.func 144) #[] #[ptr b3, ptr b4]].toArray 172 (0, 0)) :: blk b1 (.cells [.int .i64 x].toArray 3 (0, 0)) :: blk b2 (.cells [.int .u64 y].toArray 38 (0, 0)) :: blk b3 (.cells [.int .i64 x'].toArray 3 (0, 0)) :: blk b4 (.cells [.int .u64 y'].toArray 38 (0, 0)) :: R))
    (hq : appQ P ops i s kStep.e = some ((a, xs.length, c), (some ⟨sb, 0, none⟩, 2, 2), 1, bytes)) (h63 : xs.length + 2 ≤ maxLen) (hb : (xs.length + 2) * bytes ≤ 140737488355328)
    (hk : ∀ a'' c'' w', St B w0 l0 w' (stepsA a'' c'' (xs ++ [(x, y), (x', y')]) :: R) → OpsAt M P ops (i + 1) (putS s (dstOf ops i) (.slice a'' (xs ++ [(x, y), (x', y')]).length c'')) w' K) : OpsAt M P ops i s w K := by
  obtain ⟨bs, hbs, h1⟩ := St.steps_open hs
  rw [← hbs] at hq h63 hb
  have h2 := St.f2 h1
  refine ops_appendK kStep (a := a) (a' := some ⟨sb, 0, none⟩) (c := c) (c' := 2) (l := bs) (m := [(b1, b2), (b3, b4)]) h1 hq (by simp) (cells_blk (h2.heapAt 0 rfl)) h63 hb fun a'' c'' w' h3 => ?_
  have e : (bs ++ [(b1, b2), (b3, b4)]).length = (xs ++ [(x, y), (x', y')]).length := by simp [hbs]
  rw [e]
  refine hk a'' c'' w' ?_
  have h4 := St.boxes_push (St.f3 (St.f4 (St.f4 h3)))
  have h5 := St.boxes_push (St.f2 (St.f4 (St.f4 h4)))
  rw [List.append_assoc, List.append_assoc] at h5
  exact St.steps_close e (St.f1 (St.drop (St.f2 h5)))

theorem resD_three {P : Program} {s : Fs} {w : World} {fn : Func} {r q p : ResultVar} {v u z : Value} (hr : fn.results = #[r, q, p]) (h : ResAt P s w r v) (h' : ResAt P s w q u) (h'' : ResAt P s w p z) : (resD fn s).run P w = .ok (.tuple #[v, u, z]) w := by
  have h1 := h.run
  have h2 := h'.run
  have h3 := h''.run
  unfold resD
  rw [hr]
  simp [Sem.run_bind, h1, h2, h3]

theorem kU8_cells (xs : List Int) : kU8.cells xs = xs.map (Value.int .u8) := by
  induction xs with
  | nil => rfl
  | cons x xs ih => rw [Kind.cells_cons, ih]; rfl
def strConvQ (P : Program) (ops : Array Oper) (i : Nat) (s : Fs) : Option (Option Addr × Nat × Nat) :=
  match opQ ops i s with
  | some o => match o.op with
    | .convert src dst x => match P.underlying src, P.underlying dst, evS s x with
      | some (.slice e), some .string, .slice a n c => match P.underlying e with
        | some (.int .u8) => some (a, n, c)
        | _ => none
      | _, _, _ => none
    | _ => none
  | none => none
theorem runs_bytesStr {a : Option Addr} {n c : Nat} {xs : List Int} (hc : CellsAt a (kU8.cells xs) w) (hn : n = xs.length) (hq : strConvQ P ops i s = some (a, n, c)) : RunsTo P ops i s w (.string (strOfNums xs)) w := by
  subst hn
  unfold strConvQ at hq
  split at hq
  · rename_i o ho
    split at hq
    · rename_i src dst x hop
      refine ⟨_, ho, ?_⟩
      split at hq
      · rename_i e a' n' c' hsrc hdst hx
        split at hq
        · rename_i he
          simp only [Option.some.injEq, Prod.mk.injEq] at hq
          obtain ⟨rfl, rfl, rfl⟩ := hq
          have hr : (convert src dst (.slice a' xs.length c')).run P w = .ok (.string (strOfNums xs)) w := by
            cases a' with
            | none =>
              have h0 := cells_none kU8 hc
              subst h0
              exact run_convert_bytes_nil w src e hsrc he _ _ dst hdst
            | some ad =>
              have hl : (loadCells ad xs.length).run P w = .ok (xs.map (Value.int .u8)).toArray w := by
                have h := run_loadCells_list (P := P) w ad (xs.map (Value.int .u8)) (fun j v hj => hc j v (by rw [kU8_cells]; exact hj))
                simpa using h
              rw [run_convert_bytes_string w src dst e _ _ _ hsrc he hdst, run_bytesToString w _ _ _ xs hl, foldl_push_bytes]
              simp [strOfNums, ByteArray.empty, ByteArray.emptyWithCapacity]
              rfl
          simp only [execOp, hop, hx, Sem.run_bind, Result.andThen_ok, hr, Sem.run_pure]
        · cases hq
      · cases hq
    · cases hq
  · cases hq
end
end Go.Proofs.YthimamnblklkbaaDoor

namespace Go.Proofs.YthimamnblklkbaaDoor
open Go Go.RowKit

def shlK (k : IntKind) (x y : Int) : Int := k.wrap (x * 2 ^ (min y.toNat k.bits))
def shrK (k : IntKind) (x y : Int) : Int := x.fdiv (2 ^ (min y.toNat k.bits))

section
variable {P : Program} {ops : Array Oper} {i : Nat} {s : Fs} {w : World}

def shQ (ops : Array Oper) (i : Nat) (s : Fs) : Option (Bool × IntKind × Int × Int) :=
  match opQ ops i s with
  | some o => match o.op with
    | .binOp op _ x y _ => match op, evS s x, evS s y with
      | .shl, .int k a, .int _ b => some (true, k, a, b)
      | .shr, .int k a, .int _ b => some (false, k, a, b)
      | _, _, _ => none
    | _ => none
  | none => none

theorem run_guard_none (op : BinOp) (t : TypeId) (x y : Operand) (a b : Value) (h : op = .shl ∨ op = .shr) (w : World) : (eqGuard op t x y a b).run P w = .ok () w := by
  unfold eqGuard
  rcases h with rfl | rfl <;> rfl

theorem runs_shift {b : Bool} {k : IntKind} {x y : Int} (hq : shQ ops i s = some (b, k, x, y)) (hy : 0 ≤ y) : RunsTo P ops i s w (.int k (match b with | true => shlK k x y | false => shrK k x y)) w := by
  unfold shQ at hq
  split at hq
  · rename_i o ho
    split at hq
    · rename_i op t x' y' yt hop
      refine ⟨o, ho, ?_⟩
      split at hq
      · rename_i k1 a1 k2 b1 hx hy'
        cases hq
        simp only [execOp, hop, hx, hy', Sem.run_bind, run_guard_none _ _ _ _ _ _ (.inl rfl), Result.andThen_ok, binOp, Op.shift, if_neg (Int.not_lt.2 hy), Sem.run_pure]
        rfl
      · rename_i k1 a1 k2 b1 hx hy'
        cases hq
        simp only [execOp, hop, hx, hy', Sem.run_bind, run_guard_none _ _ _ _ _ _ (.inr rfl), Result.andThen_ok, binOp, Op.shift, if_neg (Int.not_lt.2 hy), Sem.run_pure]
        rfl
      · cases hq
    · cases hq
  · cases hq
end
end Go.Proofs.YthimamnblklkbaaDoor
