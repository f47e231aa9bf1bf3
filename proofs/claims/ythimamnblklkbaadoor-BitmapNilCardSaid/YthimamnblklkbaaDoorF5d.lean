/- Contracts of the functions of view, by a program. -/
import Derived.Test.YthimamnblklkbaaDoorF5c
namespace Go.Proofs.YthimamnblklkbaaDoor
open Go Go.RowKit
set_option linter.unusedSimpArgs false
set_option linter.unusedVariables false

set_option maxRecDepth 20000 in
theorem apply_spec {wa la : Option Addr} {wc lc : Nat} {words : List Int} {l : List (Int × Int)} {A : Asn} (B : Nat) (w : World) (hA : ∀ {B : Nat} {w : World} {lf : List Nat}, A.P B w lf → CellsAt la (kWr.cells l) w) (hsz : l.length ≤ 9223372036854775806) : Spec Tryd.prog 99 #[(.slice wa words.length wc), (.slice la l.length lc)] B w [kU64.row wa wc words, A] (fun v H' => v = .int .i64 (vapply words l).1 ∧ H' = [kU64.row wa wc (vapply words l).2, A]) := by
  refine spec_W Tryd.func99 rfl fun l0 hs => ?_
  refine W.seq fun K1 hK1 => ?_
  refine W.region ?_
  refine ops_new (fun b => .pointer (some ⟨b, 0, none⟩)) (.cells [(.slice wa words.length wc)].toArray 36 (0, 0)) hs (by kernel_rfl) (fun b4 w2 hs3 => ?_)
  refine ops_run 1 (by kernel_rfl) ?_
  refine ops_done (by kernel_rfl) ?_
  refine hK1 _ _ ?_
  clear hK1
  refine W.seq fun K5 hK5 => ?_
  refine W.seq fun K6 hK6 => ?_
  refine W.region ?_
  refine ops_run 1 (by kernel_rfl) ?_
  refine ops_run 1 (by kernel_rfl) ?_
  refine ops_call (pre := []) hs3 (by kernel_rfl) (contains_spec (lc := lc) (hsz := (by omega)) (hl := (hs3.entAt 2 rfl hA)) (hb := (hs3.heapAt 0 rfl)) B _) ?_
  rintro _ _ w7 ⟨rfl, rfl⟩ hs8
  have hs9 : St B w l0 w7 [blk b4 (.cells [(.slice wa words.length wc)].toArray 36 (0, 0)), kU64.row wa wc words, A] := hs8
  refine ops_done (by kernel_rfl) ?_
  refine hK6 _ _ ?_
  clear hK6
  refine W.cond (l.any (bad words.length)) (by kernel_rfl) (fun h10 => ?_) (fun h10 => ?_)
  ·
    have h10p : (l.any (bad words.length)) = true := h10
    refine W.seq fun K11 hK11 => ?_
    refine W.region ?_
    refine ops_run 1 (by kernel_rfl) ?_
    refine ops_done (by kernel_rfl) ?_
    refine hK11 _ _ ?_
    clear hK11
    refine W.ret (ret_seq ?_)
    have hs12 : St B w l0 w7 [A, blk b4 (.cells [(.slice wa words.length wc)].toArray 36 (0, 0)), kU64.row wa wc words] := hs9.front 2 (by simp)
    have hs13 : St B w l0 w7 [kU64.row wa wc words, A, blk b4 (.cells [(.slice wa words.length wc)].toArray 36 (0, 0))] := hs12.front 2 (by simp)
    have hs14 : St B w l0 w7 [kU64.row wa wc words, A] := St.take (H := [kU64.row wa wc words, A]) hs13
    have e_ : vapply words l = (8, words) := if_pos (by assumption)
    refine ret_of (.int .i64 8) (by kernel_rfl) ⟨_, ⟨by rw [e_], rfl⟩, by rw [e_]; exact hs14⟩
  ·
    have h10p : (l.any (bad words.length)) = false := h10
    refine W.skip ?_
    refine hK5 _ _ ?_
    clear hK5
    refine W.seq fun K15 hK15 => ?_
    refine W.seq fun K16 hK16 => ?_
    refine W.region ?_
    refine ops_run 3 (by kernel_rfl) ?_
    refine ops_done (by kernel_rfl) ?_
    refine hK16 _ _ ?_
    clear hK16
    refine W.block ?_
    refine W.loop (G := Nat) (fun | k, s_, w_ => (∃ us, s_ = slots 23 [(2, (.pointer (some ⟨b4, 0, none⟩))), (10, (.slice la l.length lc)), (11, (.int .i64 (l.length : Int))), (12, (.int .i64 (k : Int)))] us) ∧ St B w l0 w_ [blk b4 (.cells [(.slice wa words.length wc)].toArray 36 (0, 0)), kU64.row wa wc (vflat words (l.take k)), A] ∧ (k ≤ l.length)) (fun k => l.length - k) 0 ⟨slots_intro _ (by kernel_rfl), hs9, Nat.zero_le _⟩ ?_
    rintro k _ w17 ⟨⟨us, rfl⟩, hs18, hk_⟩
    refine W.seq fun K19 hK19 => ?_
    refine W.region ?_
    refine ops_run 1 (by kernel_rfl) ?_
    refine ops_done (by kernel_rfl) ?_
    refine hK19 _ _ ?_
    clear hK19
    refine W.seq fun K20 hK20 => ?_
    refine W.cond (decide ((k : Int) < (l.length : Int))) (by kernel_rfl) (fun h21 => ?_) (fun h21 => ?_)
    ·
      have h21p : (k : Int) < (l.length : Int) := of_decide_eq_true h21
      have hin := not_any_get (l := l) (n := words.length) (k := k) (by assumption) (by omega)
      refine W.skip ?_
      refine hK20 _ _ ?_
      clear hK20
      refine W.seq fun K22 hK22 => ?_
      refine W.block ?_
      refine W.seq fun K23 hK23 => ?_
      refine W.region ?_
      have hk24 : k < l.length := by omega
      refine ops_R (runs_index (a := la) (n := l.length) (z := (k : Int)) (size := 2) k rfl hk24 (kWr.addr (hs18.entAt 2 rfl hA) hk24) (by kernel_rfl)) ?_
      refine ops_R (runs_loadAgg (cs := [(.int .i64 ((l.getD k (0, 0)).1)), (.int .u64 ((l.getD k (0, 0)).2))]) (by kernel_rfl) (kWr.all (hs18.entAt 2 rfl hA) hk24 (0, 0) 0 rfl)) ?_
      refine ops_new (fun b => .pointer (some ⟨b, 0, none⟩)) (.cells [(.int .i64 0), (.int .u64 0)].toArray 177 (0, 0)) hs18 (by kernel_rfl) (fun b27 w25 hs26 => ?_)
      refine ops_store (off := 0) (cs := [(.int .i64 0), (.int .u64 0)]) (vs := [(.int .i64 ((l.getD k (0, 0)).1)), (.int .u64 ((l.getD k (0, 0)).2))]) hs26 (by kernel_rfl) (by simp) rfl (fun w28 hs29 => ?_)
      have hs30 : St B w l0 w28 [blk b27 (.cells [(.int .i64 ((l.getD k (0, 0)).1)), (.int .u64 ((l.getD k (0, 0)).2))].toArray 177 (0, 0)), blk b4 (.cells [(.slice wa words.length wc)].toArray 36 (0, 0)), kU64.row wa wc (vflat words (l.take k)), A] := hs29
      refine ops_done (by kernel_rfl) ?_
      refine hK23 _ _ ?_
      clear hK23
      refine W.region ?_
      refine ops_R (runs_load (ad := ⟨b4, 0, none⟩) (v := (.slice wa words.length wc)) (by kernel_rfl) (hs30.cellAt 1 rfl rfl)) ?_
      refine ops_run 1 (by kernel_rfl) ?_
      refine ops_R (runs_load (ad := ⟨b27, 0, none⟩) (v := (.int .i64 ((l.getD k (0, 0)).1))) (by kernel_rfl) (hs30.cellAt 0 rfl rfl)) ?_
      refine ops_run 1 (by kernel_rfl) ?_
      refine ops_R (runs_load (ad := ⟨b27, 1, none⟩) (v := (.int .u64 ((l.getD k (0, 0)).2))) (by kernel_rfl) (hs30.cellAt 0 rfl rfl)) ?_
      have hk31 : ((l.getD k (0, 0)).1).toNat < words.length := by omega
      have hk32 : ((l.getD k (0, 0)).1).toNat < (vflat words (l.take k)).length := (by rw [vflat_length]; exact hk31)
      refine ops_R (runs_index (a := wa) (n := words.length) (z := (l.getD k (0, 0)).1) (size := 1) (((l.getD k (0, 0)).1).toNat) (by omega) hk31 (kU64.addr (St.kcells kU64 hs30 2 rfl) hk32) (by kernel_rfl)) ?_
      have hs35 : St B w l0 w28 [kU64.row wa wc (vflat words (l.take k)), blk b27 (.cells [(.int .i64 ((l.getD k (0, 0)).1)), (.int .u64 ((l.getD k (0, 0)).2))].toArray 177 (0, 0)), blk b4 (.cells [(.slice wa words.length wc)].toArray 36 (0, 0)), A] := hs30.front 2 (by simp)
      refine ops_storeK kU64 (j := 0) (vs := [(.int .u64 ((l.getD k (0, 0)).2))]) 0 ((l.getD k (0, 0)).2) hs35 hk32 (Nat.le_of_ble_eq_true rfl) (by simp) rfl rfl (by kernel_rfl) (fun w33 hs34 => ?_)
      refine ops_done (by kernel_rfl) ?_
      refine normal_block ?_
      refine hK22 _ _ ?_
      clear hK22
      refine W.region ?_
      refine ops_val (v := .int .i64 (IntKind.i64.wrap ((k : Int) + 1))) (v' := .int .i64 ((k + 1 : Nat) : Int)) (by kernel_rfl) (congrArg (Value.int .i64) (wrap_i64 (by omega) (by omega))) ?_
      refine ops_run 1 (by kernel_rfl) ?_
      refine ops_done (by kernel_rfl) ?_
      have e_ := vflat_step words (l := l) (k := k) (by omega)
      have hs37 : St B w l0 w33 [A, kU64.row wa wc ((vflat words (l.take k)).set (((l.getD k (0, 0)).1).toNat) ((l.getD k (0, 0)).2)), blk b27 (.cells [(.int .i64 ((l.getD k (0, 0)).1)), (.int .u64 ((l.getD k (0, 0)).2))].toArray 177 (0, 0)), blk b4 (.cells [(.slice wa words.length wc)].toArray 36 (0, 0))] := hs34.front 3 (by simp)
      have hs38 : St B w l0 w33 [kU64.row wa wc ((vflat words (l.take k)).set (((l.getD k (0, 0)).1).toNat) ((l.getD k (0, 0)).2)), A, blk b27 (.cells [(.int .i64 ((l.getD k (0, 0)).1)), (.int .u64 ((l.getD k (0, 0)).2))].toArray 177 (0, 0)), blk b4 (.cells [(.slice wa words.length wc)].toArray 36 (0, 0))] := hs37.front 1 (by simp)
      have hs39 : St B w l0 w33 [blk b4 (.cells [(.slice wa words.length wc)].toArray 36 (0, 0)), kU64.row wa wc ((vflat words (l.take k)).set (((l.getD k (0, 0)).1).toNat) ((l.getD k (0, 0)).2)), A, blk b27 (.cells [(.int .i64 ((l.getD k (0, 0)).1)), (.int .u64 ((l.getD k (0, 0)).2))].toArray 177 (0, 0))] := hs38.front 3 (by simp)
      have hs40 : St B w l0 w33 [blk b4 (.cells [(.slice wa words.length wc)].toArray 36 (0, 0)), kU64.row wa wc ((vflat words (l.take k)).set (((l.getD k (0, 0)).1).toNat) ((l.getD k (0, 0)).2)), A] := St.take (H := [blk b4 (.cells [(.slice wa words.length wc)].toArray 36 (0, 0)), kU64.row wa wc ((vflat words (l.take k)).set (((l.getD k (0, 0)).1).toNat) ((l.getD k (0, 0)).2)), A]) hs39
      rw [e_] at hs40
      exact ⟨k + 1, ⟨slots_intro _ (by kernel_rfl), hs40, by omega⟩, by first | omega | (dsimp only; omega)⟩
    ·
      have h21p : ¬ ((k : Int) < (l.length : Int)) := of_decide_eq_false h21
      refine W.exit (exit_seq (exit_seq (exit_here ?_)))
      refine hK15 _ _ ?_
      clear hK15
      refine W.seq fun K41 hK41 => ?_
      refine W.region ?_
      refine ops_run 1 (by kernel_rfl) ?_
      refine ops_done (by kernel_rfl) ?_
      refine hK41 _ _ ?_
      clear hK41
      refine W.ret ?_
      have hs42 : St B w l0 w17 [A, blk b4 (.cells [(.slice wa words.length wc)].toArray 36 (0, 0)), kU64.row wa wc (vflat words (l.take k))] := hs18.front 2 (by simp)
      have hs43 : St B w l0 w17 [kU64.row wa wc (vflat words (l.take k)), A, blk b4 (.cells [(.slice wa words.length wc)].toArray 36 (0, 0))] := hs42.front 2 (by simp)
      have hs44 : St B w l0 w17 [kU64.row wa wc (vflat words (l.take k)), A] := St.take (H := [kU64.row wa wc (vflat words (l.take k)), A]) hs43
      have hno : ¬ (l.any (bad words.length)) = true := by simp only [‹l.any (bad words.length) = false›]; decide
      have e_ : vapply words l = (0, vflat words l) := if_neg hno
      have e2_ : l.take k = l := List.take_of_length_le (by omega)
      have hs_ := hs44
      rw [e2_] at hs_
      refine ret_of (.int .i64 0) (by kernel_rfl) ⟨_, ⟨by rw [e_], rfl⟩, by rw [e_]; exact hs_⟩

set_option maxRecDepth 20000 in
theorem flat_spec {p : Value} {img : List Int} {l : List (Int × Int)} (B : Nat) (w : World) (hv : ViewAt p img l w) : Spec Tryd.prog 29 #[p] B w [] (fun v H' => ∃ a' c', v = .slice a' (vflat img l).length c' ∧ H' = [kU64.row a' c' (vflat img l)]) := by
  refine spec_Q Tryd.func29 rfl fun hs => ?_
  have hv0 := hv
  obtain ⟨x, rfl, hok, hb, hi, hm, ho, hcap⟩ := hv
  have hroom := hok.many
  refine W.seq fun K1 hK1 => ?_
  refine W.region ?_
  refine ops_run 1 (by kernel_rfl) ?_
  refine ops_done (by kernel_rfl) ?_
  refine hK1 _ _ ?_
  clear hK1
  refine W.seq fun K2 hK2 => ?_
  refine W.seq fun K3 hK3 => ?_
  refine W.region ?_
  refine ops_run 2 (by kernel_rfl) ?_
  refine ops_done (by kernel_rfl) ?_
  refine hK3 _ _ ?_
  clear hK3
  refine W.cond_false false (by kernel_rfl) rfl ?_
  refine W.skip ?_
  refine hK2 _ _ ?_
  clear hK2
  refine W.seq fun K4 hK4 => ?_
  refine W.region ?_
  refine ops_run 3 (by kernel_rfl) ?_
  refine ops_R (runs_load (ad := ⟨x.b, 0, none⟩) (v := (.slice x.ia img.length x.ic)) (by kernel_rfl) (cell_of_blk (hs.old hb) rfl)) ?_
  refine ops_call (pre := []) hs (by kernel_rfl) (clone_spec (hc := (hs.oldCells hi)) (hn := hcap) (hsz := hok.size) B _) ?_
  rintro _ _ w7 ⟨a5, c6, rfl, rfl⟩ hs8
  have hs9 : St B w [] w7 [kU64.row a5 c6 img] := hs8
  refine ops_run 1 (by kernel_rfl) ?_
  refine ops_done (by kernel_rfl) ?_
  refine hK4 _ _ ?_
  clear hK4
  refine W.seq fun K10 hK10 => ?_
  refine W.region ?_
  refine ops_run 2 (by kernel_rfl) ?_
  refine ops_call (pre := []) hs9 (by kernel_rfl) (writes_spec (hv := (viewAt_old hs9 hv0)) B _) ?_
  rintro _ _ w13 ⟨a11, c12, rfl, rfl⟩ hs14
  have hs15 : St B w [] w13 [kWr.row a11 c12 l, kU64.row a5 c6 img] := hs14
  have hs16 : St B w [] w13 [kU64.row a5 c6 img, kWr.row a11 c12 l] := hs15.front 1 (by simp)
  refine ops_call (pre := [kU64.row a5 c6 img, kWr.row a11 c12 l]) hs16 (by kernel_rfl) (apply_spec (wa := a5) (wc := c6) (la := a11) (lc := c12) (words := img) (l := l) (A := kWr.row a11 c12 l) (hA := (fun h => rowA_cells h)) (hsz := (by omega)) B _) ?_
  rintro _ _ w17 ⟨rfl, rfl⟩ hs18
  have hs19 : St B w [] w17 [kU64.row a5 c6 ((vapply img l).2), kWr.row a11 c12 l] := hs18
  refine ops_done (by kernel_rfl) ?_
  refine hK10 _ _ ?_
  clear hK10
  refine W.seq fun K20 hK20 => ?_
  refine W.region ?_
  refine ops_run 2 (by kernel_rfl) ?_
  refine ops_done (by kernel_rfl) ?_
  refine hK20 _ _ ?_
  clear hK20
  refine W.ret ?_
  have hs21 : St B w [] w17 [kU64.row a5 c6 ((vapply img l).2)] := St.take (H := [kU64.row a5 c6 ((vapply img l).2)]) hs19
  have e_ : vapply img l = (0, vflat img l) := if_neg (by rw [inside_any hok.inside]; decide)
  have hs_ := hs21
  rw [e_] at hs_
  refine ret_of (.slice a5 img.length c6) (by kernel_rfl) ⟨_, ⟨a5, c6, by rw [vflat_length], rfl⟩, hs_⟩

set_option maxRecDepth 20000 in
theorem drop_spec {p : Value} {img : List Int} {l : List (Int × Int)} (B : Nat) (w : World) : Spec Tryd.prog 41 #[p] B w [viewA p img l] (fun v H' => v = .tuple #[] ∧ H' = [viewA p img []]) := by
  refine spec_W Tryd.func41 rfl fun l0 hs => ?_
  obtain ⟨x, ⟨rfl, hok⟩, hs0⟩ := St.open hs
  have hs1 : St B w l0 w [blk x.b (.cells [(.slice x.ia img.length x.ic), (.map (some x.mb)), (.slice x.oa ((l.map (·.1)).length) x.oc)].toArray 163 (0, 0)), kU64.row x.ia x.ic img, mapA x.mb l, kInt.row x.oa x.oc (l.map (·.1))] := hs0
  refine W.seq fun K1 hK1 => ?_
  refine W.region ?_
  refine ops_run 2 (by kernel_rfl) ?_
  refine ops_done (by kernel_rfl) ?_
  refine hK1 _ _ ?_
  clear hK1
  refine W.cond_true true (by kernel_rfl) rfl ?_
  refine W.seq fun K2 hK2 => ?_
  refine W.region ?_
  refine ops_run 3 (by kernel_rfl) ?_
  refine ops_R (runs_load (ad := ⟨x.b, 1, none⟩) (v := (.map (some x.mb))) (by kernel_rfl) (hs1.cellAt 0 rfl rfl)) ?_
  have hs3 : St B w l0 w [mapA x.mb l, blk x.b (.cells [(.slice x.ia img.length x.ic), (.map (some x.mb)), (.slice x.oa ((l.map (·.1)).length) x.oc)].toArray 163 (0, 0)), kU64.row x.ia x.ic img, kInt.row x.oa x.oc (l.map (·.1))] := hs1.front 2 (by simp)
  refine ops_clear hs3 (by kernel_rfl) (fun w4 hs5 => ?_)
  refine ops_done (by kernel_rfl) ?_
  refine hK2 _ _ ?_
  clear hK2
  refine W.region ?_
  refine ops_run 3 (by kernel_rfl) ?_
  have hs8 : St B w l0 w4 [blk x.b (.cells [(.slice x.ia img.length x.ic), (.map (some x.mb)), (.slice x.oa ((l.map (·.1)).length) x.oc)].toArray 163 (0, 0)), mapA x.mb ([]), kU64.row x.ia x.ic img, kInt.row x.oa x.oc (l.map (·.1))] := hs5.front 1 (by simp)
  refine ops_store (off := 2) (cs := [(.slice x.ia img.length x.ic), (.map (some x.mb)), (.slice x.oa ((l.map (·.1)).length) x.oc)]) (vs := [(.slice none 0 0)]) hs8 (by kernel_rfl) (by simp) rfl (fun w6 hs7 => ?_)
  have hs9 : St B w l0 w6 [blk x.b (.cells [(.slice x.ia img.length x.ic), (.map (some x.mb)), (.slice none 0 0)].toArray 163 (0, 0)), mapA x.mb ([]), kU64.row x.ia x.ic img, kInt.row x.oa x.oc (l.map (·.1))] := hs7
  refine ops_done (by kernel_rfl) ?_
  have hs10 : St B w l0 w6 [mapA x.mb ([]), blk x.b (.cells [(.slice x.ia img.length x.ic), (.map (some x.mb)), (.slice none 0 0)].toArray 163 (0, 0)), kU64.row x.ia x.ic img, kInt.row x.oa x.oc (l.map (·.1))] := hs9.front 1 (by simp)
  have hs11 : St B w l0 w6 [kU64.row x.ia x.ic img, mapA x.mb ([]), blk x.b (.cells [(.slice x.ia img.length x.ic), (.map (some x.mb)), (.slice none 0 0)].toArray 163 (0, 0)), kInt.row x.oa x.oc (l.map (·.1))] := hs10.front 2 (by simp)
  have hs12 : St B w l0 w6 [blk x.b (.cells [(.slice x.ia img.length x.ic), (.map (some x.mb)), (.slice none 0 0)].toArray 163 (0, 0)), kU64.row x.ia x.ic img, mapA x.mb ([]), kInt.row x.oa x.oc (l.map (·.1))] := hs11.front 2 (by simp)
  have hs13 : St B w l0 w6 [blk x.b (.cells [(.slice x.ia img.length x.ic), (.map (some x.mb)), (.slice none 0 0)].toArray 163 (0, 0)), kU64.row x.ia x.ic img, mapA x.mb ([])] := St.take (H := [blk x.b (.cells [(.slice x.ia img.length x.ic), (.map (some x.mb)), (.slice none 0 0)].toArray 163 (0, 0)), kU64.row x.ia x.ic img, mapA x.mb ([])]) hs12
  have hk := St.knil kInt hs13
  have hk2 := hk.perm (H' := [blk x.b (.cells [(.slice x.ia img.length x.ic), (.map (some x.mb)), (.slice none 0 0)].toArray 163 (0, 0)), kU64.row x.ia x.ic img, mapA x.mb ([]), kInt.row none 0 []]) (perm_last _ _)
  refine ret_ofN (.tuple #[]) (by kernel_rfl) ⟨_, ⟨rfl, rfl⟩, view_close (l := []) (ia := x.ia) (ic := x.ic) (mb := x.mb) (oa := none) (oc := 0) (VOk.nil hok.size) hk2⟩

end Go.Proofs.YthimamnblklkbaaDoor
