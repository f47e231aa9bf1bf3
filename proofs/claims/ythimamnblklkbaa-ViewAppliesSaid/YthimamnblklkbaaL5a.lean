/- The walks of laws of layer 5, by a program. -/
import Derived.Test.YthimamnblklkbaaLw
namespace Go.Proofs.Ythimamnblklkbaa
open Go Go.RowKit

set_option maxRecDepth 20000 in
set_option linter.unusedVariables false in
theorem viewnil_walk {at_ w_ : Int} (B : Nat) (w : World) (hB : w.heap.size = B) : Spec Try.prog 7 #[(.int .i64 at_), (.int .u64 w_)] B w [] (fun v H' => v = .bool true ∧ H' = []) := by
  refine spec_Q Try.func7 rfl fun hs => ?_
  refine W.seq fun K1 hK1 => ?_
  refine W.region ?_
  refine ops_run 1 (by kernel_rfl) ?_
  refine ops_done (by kernel_rfl) ?_
  refine hK1 _ _ ?_
  refine W.seq fun K2 hK2 => ?_
  refine W.region ?_
  refine ops_run 1 (by kernel_rfl) ?_
  refine ops_done (by kernel_rfl) ?_
  refine hK2 _ _ ?_
  refine W.seq fun K3 hK3 => ?_
  refine W.region ?_
  refine ops_run 1 (by kernel_rfl) ?_
  refine ops_call (pre := []) hs (by kernel_rfl) (drop_nil B _) ?_
  rintro _ _ w4 ⟨rfl, rfl⟩ hs5
  have hs6 : St B w [] w4 [] := hs5
  refine ops_done (by kernel_rfl) ?_
  refine hK3 _ _ ?_
  refine W.seq fun K7 hK7 => ?_
  refine W.region ?_
  refine ops_run 1 (by kernel_rfl) ?_
  refine ops_call (pre := []) hs6 (by kernel_rfl) (len_nil B _) ?_
  rintro _ _ w8 ⟨rfl, rfl⟩ hs9
  have hs10 : St B w [] w8 [] := hs9
  refine ops_run 4 (by kernel_rfl) ?_
  refine ops_call (pre := []) hs10 (by kernel_rfl) (get_nil (at_ := at_) B _) ?_
  rintro _ _ w11 ⟨rfl, rfl⟩ hs12
  have hs13 : St B w [] w11 [] := hs12
  refine ops_run 6 (by kernel_rfl) ?_
  refine ops_call (pre := []) hs13 (by kernel_rfl) (put_nil (at_ := at_) (x_ := w_) B _) ?_
  rintro _ _ w14 ⟨rfl, rfl⟩ hs15
  have hs16 : St B w [] w14 [] := hs15
  refine ops_run 4 (by kernel_rfl) ?_
  refine ops_call (pre := []) hs16 (by kernel_rfl) (writes_nil B _) ?_
  rintro _ _ w17 ⟨rfl, rfl⟩ hs18
  have hs19 : St B w [] w17 [] := hs18
  refine ops_run 2 (by kernel_rfl) ?_
  refine ops_call (pre := []) hs19 (by kernel_rfl) (flat_nil B _) ?_
  rintro _ _ w20 ⟨rfl, rfl⟩ hs21
  have hs22 : St B w [] w20 [] := hs21
  refine ops_run 5 (by kernel_rfl) ?_
  refine ops_call (pre := []) hs22 (by kernel_rfl) (works5_spec B _) ?_
  rintro _ _ w23 ⟨rfl, rfl⟩ hs24
  have hs25 : St B w [] w23 [] := hs24
  refine ops_run 2 (by kernel_rfl) ?_
  refine ops_done (by kernel_rfl) ?_
  refine hK7 _ _ ?_
  refine W.ret ?_
  refine ret_of (.bool true) (by kernel_rfl) ⟨_, ⟨rfl, rfl⟩, hs25⟩

set_option maxRecDepth 20000 in
set_option linter.unusedVariables false in
theorem viewapplies_walk {wa la : Option Addr} {wc lc : Nat} {ws : List Int} {l : List (Int × Int)} (B : Nat) (w : World) (hB : w.heap.size = B) (hw : CellsAt wa (kU64.cells ws) w) (hn : wa = none → wc = 0) (hl : CellsAt la (kWr.cells l) w) : Spec Try.prog 3 #[(.slice wa ws.length wc), (.slice la l.length lc)] B w [] (fun v H' => v = .bool true ∧ H' = []) := by
  refine spec_Q Try.func3 rfl fun hs => ?_
  have hs1 : St B w [] w [kWr.low la l] := St.addLowB kWr hB hs hl
  refine W.seq fun K2 hK2 => ?_
  refine W.region ?_
  refine ops_run 1 (by kernel_rfl) ?_
  refine ops_done (by kernel_rfl) ?_
  refine hK2 _ _ ?_
  refine W.seq fun K3 hK3 => ?_
  refine W.seq fun K4 hK4 => ?_
  refine W.region ?_
  refine ops_run 4 (by kernel_rfl) ?_
  rcases Bool.eq_false_or_eq_true (decide ((ws.length : Int) > 1000)) with h5 | h5
  ·
    have h5p : (ws.length : Int) > 1000 := of_decide_eq_true h5
    refine ops_set 12 (v := .bool true) (eq_bool_of (by kernel_rfl) h5) ?_
    refine ops_set 11 (v := .bool true) (eq_bool_of (by kernel_rfl) h5) ?_
    refine ops_run 4 (by kernel_rfl) ?_
    refine ops_done (by kernel_rfl) ?_
    refine hK4 _ _ ?_
    refine W.cond_true true (by kernel_rfl) rfl ?_
    refine W.seq fun K6 hK6 => ?_
    refine W.region ?_
    refine ops_call (pre := []) hs1 (by kernel_rfl) (works5_spec B _) ?_
    rintro _ _ w7 ⟨rfl, rfl⟩ hs8
    have hs9 : St B w [] w7 [kWr.low la l] := hs8
    refine ops_run 1 (by kernel_rfl) ?_
    refine ops_done (by kernel_rfl) ?_
    refine hK6 _ _ ?_
    refine W.ret (ret_seq ?_)
    have hs10 : St B w [] w7 [] := St.take (H := []) hs9
    refine ret_of (.bool true) (by kernel_rfl) ⟨_, ⟨rfl, rfl⟩, hs10⟩
  ·
    have h5p : ¬ ((ws.length : Int) > 1000) := of_decide_eq_false h5
    refine ops_set 12 (v := .bool false) (eq_bool_of (by kernel_rfl) h5) ?_
    refine ops_set 11 (v := .bool false) (eq_bool_of (by kernel_rfl) h5) ?_
    refine ops_run 4 (by kernel_rfl) ?_
    refine ops_done (by kernel_rfl) ?_
    refine hK4 _ _ ?_
    refine W.cond (decide ((l.length : Int) > 300)) (by kernel_rfl) (fun h11 => ?_) (fun h11 => ?_)
    ·
      have h11p : (l.length : Int) > 300 := of_decide_eq_true h11
      refine W.seq fun K12 hK12 => ?_
      refine W.region ?_
      refine ops_call (pre := []) hs1 (by kernel_rfl) (works5_spec B _) ?_
      rintro _ _ w13 ⟨rfl, rfl⟩ hs14
      have hs15 : St B w [] w13 [kWr.low la l] := hs14
      refine ops_run 1 (by kernel_rfl) ?_
      refine ops_done (by kernel_rfl) ?_
      refine hK12 _ _ ?_
      refine W.ret (ret_seq ?_)
      have hs16 : St B w [] w13 [] := St.take (H := []) hs15
      refine ret_of (.bool true) (by kernel_rfl) ⟨_, ⟨rfl, rfl⟩, hs16⟩
    ·
      have h11p : ¬ ((l.length : Int) > 300) := of_decide_eq_false h11
      refine W.skip ?_
      refine hK3 _ _ ?_
      refine W.seq fun K17 hK17 => ?_
      refine W.region ?_
      refine ops_new (fun b => .slice (some ⟨b, 0, none⟩) 0 0) (.cells [].toArray 33 (0, 0)) hs1 (by kernel_rfl) (fun b20 w18 hs19 => ?_)
      refine ops_run 1 (by kernel_rfl) ?_
      have hs21 : St B w [] w18 [kU64.row (some ⟨b20, 0, none⟩) 0 ([]), kWr.low la l] := St.kblk kU64 [] hs19 rfl rfl (by decide)
      refine ops_appendK kU64 (bytes := 8) (a' := wa) (c' := wc) (l := []) (m := ws) hs21 (by kernel_rfl) hn (hs21.oldCells hw) (by (unfold maxLen; try simp) <;> omega) (by (try simp) <;> omega) (fun a22 c23 w24 hs25 => ?_)
      refine ops_run 1 (by kernel_rfl) ?_
      refine ops_done (by kernel_rfl) ?_
      refine hK17 _ _ ?_
      refine W.seq fun K26 hK26 => ?_
      refine W.region ?_
      refine ops_new (fun b => .slice (some ⟨b, 0, none⟩) 0 0) (.cells [].toArray 33 (0, 0)) hs25 (by kernel_rfl) (fun b29 w27 hs28 => ?_)
      refine ops_run 1 (by kernel_rfl) ?_
      have hs30 : St B w [] w27 [kU64.row (some ⟨b29, 0, none⟩) 0 ([]), kU64.row a22 c23 ws, kWr.low la l] := St.kblk kU64 [] hs28 rfl rfl (by decide)
      refine ops_appendK kU64 (bytes := 8) (a' := wa) (c' := wc) (l := []) (m := ws) hs30 (by kernel_rfl) hn (hs30.oldCells hw) (by (unfold maxLen; try simp) <;> omega) (by (try simp) <;> omega) (fun a31 c32 w33 hs34 => ?_)
      refine ops_run 1 (by kernel_rfl) ?_
      refine ops_done (by kernel_rfl) ?_
      refine hK26 _ _ ?_
      refine W.seq fun K35 hK35 => ?_
      refine W.region ?_
      refine ops_run 2 (by kernel_rfl) ?_
      have hs36 : St B w [] w33 [kWr.low la l, kU64.row a31 c32 ws, kU64.row a22 c23 ws] := hs34.front 2 (by simp)
      have hs37 : St B w [] w33 [kU64.row a22 c23 ws, kWr.low la l, kU64.row a31 c32 ws] := hs36.front 2 (by simp)
      refine ops_call (pre := [kU64.row a22 c23 ws, kWr.low la l]) hs37 (by kernel_rfl) (apply_spec (wa := a22) (wc := c23) (la := la) (lc := lc) (words := ws) (l := l) (A := kWr.low la l) (hA := (fun h => (low_cells kWr) h)) (hsz := (by omega)) B _) ?_
      rintro _ _ w38 ⟨rfl, rfl⟩ hs39
      have hs40 : St B w [] w38 [kU64.row a22 c23 ((vapply ws l).2), kWr.low la l, kU64.row a31 c32 ws] := hs39
      refine ops_run 1 (by kernel_rfl) ?_
      refine ops_done (by kernel_rfl) ?_
      refine hK35 _ _ ?_
      refine W.seq fun K41 hK41 => ?_
      refine W.region ?_
      refine ops_run 2 (by kernel_rfl) ?_
      have hs42 : St B w [] w38 [kWr.low la l, kU64.row a22 c23 ((vapply ws l).2), kU64.row a31 c32 ws] := hs40.front 1 (by simp)
      have hs43 : St B w [] w38 [kU64.row a31 c32 ws, kWr.low la l, kU64.row a22 c23 ((vapply ws l).2)] := hs42.front 2 (by simp)
      refine ops_call (pre := [kU64.row a31 c32 ws, kWr.low la l]) hs43 (by kernel_rfl) (rapply_spec (wa := a31) (wc := c32) (la := la) (lc := lc) (words := ws) (l := l) (A := kWr.low la l) (hA := (fun h => (low_cells kWr) h)) (hsz := (by omega)) B _) ?_
      rintro _ _ w44 ⟨rfl, rfl⟩ hs45
      have hs46 : St B w [] w44 [kU64.row a31 c32 ((vapply ws l).2), kWr.low la l, kU64.row a22 c23 ((vapply ws l).2)] := hs45
      refine ops_run 1 (by kernel_rfl) ?_
      refine ops_done (by kernel_rfl) ?_
      refine hK41 _ _ ?_
      refine W.seq fun K47 hK47 => ?_
      refine W.region ?_
      refine ops_run 4 (by kernel_rfl) ?_
      rcases Bool.eq_false_or_eq_true (decide ((vapply ws l).1 = (vapply ws l).1)) with h48 | h48
      ·
        have h48p : (vapply ws l).1 = (vapply ws l).1 := of_decide_eq_true h48
        refine ops_set 33 (v := .bool true) (eq_bool_of (by kernel_rfl) h48) ?_
        refine ops_set 32 (v := .bool true) (eq_bool_of (by kernel_rfl) h48) ?_
        refine ops_run 2 (by kernel_rfl) ?_
        refine ops_call (pre := []) hs46 (by kernel_rfl) (same03_spec (xs := (vapply ws l).2) (ys := (vapply ws l).2) (xc := c23) (yc := c32) (n := ws.length) (m := ws.length) (hn := (by simp only [vflat_length, vapply_length])) (hm := (by simp only [vflat_length, vapply_length])) (hx := (St.kcells kU64 hs46 2 rfl)) (hy := (St.kcells kU64 hs46 0 rfl)) (hsz := (by omega)) B _) ?_
        rintro _ _ w49 ⟨rfl, rfl⟩ hs50
        have hs51 : St B w [] w49 [kU64.row a31 c32 ((vapply ws l).2), kWr.low la l, kU64.row a22 c23 ((vapply ws l).2)] := hs50
        refine ops_run 2 (by kernel_rfl) ?_
        rcases Bool.eq_false_or_eq_true (decide (((vapply ws l).2) = ((vapply ws l).2))) with h52 | h52
        ·
          have h52p : ((vapply ws l).2) = ((vapply ws l).2) := of_decide_eq_true h52
          refine ops_set 38 (v := .bool true) (eq_bool_of (by kernel_rfl) h52) ?_
          refine ops_set 36 (v := .bool true) (eq_bool_of (by kernel_rfl) h52) ?_
          refine ops_set 37 (v := .bool true) (eq_bool_of (by kernel_rfl) h52) ?_
          refine ops_call (pre := []) hs51 (by kernel_rfl) (works5_spec B _) ?_
          rintro _ _ w53 ⟨rfl, rfl⟩ hs54
          have hs55 : St B w [] w53 [kU64.row a31 c32 ((vapply ws l).2), kWr.low la l, kU64.row a22 c23 ((vapply ws l).2)] := hs54
          refine ops_run 2 (by kernel_rfl) ?_
          refine ops_done (by kernel_rfl) ?_
          refine hK47 _ _ ?_
          refine W.ret ?_
          have hs56 : St B w [] w53 [] := St.take (H := []) hs55
          refine ret_of (.bool true) (by kernel_rfl) ⟨_, ⟨rfl, rfl⟩, hs56⟩
        ·
          have h52p : ¬ (((vapply ws l).2) = ((vapply ws l).2)) := of_decide_eq_false h52
          refine ops_set 38 (v := .bool false) (eq_bool_of (by kernel_rfl) h52) ?_
          refine ops_set 36 (v := .bool false) (eq_bool_of (by kernel_rfl) h52) ?_
          refine ops_set 37 (v := .bool false) (eq_bool_of (by kernel_rfl) h52) ?_
          refine ops_run 3 (by kernel_rfl) ?_
          refine ops_done (by kernel_rfl) ?_
          refine hK47 _ _ ?_
          refine W.ret ?_
          have hs57 : St B w [] w49 [] := St.take (H := []) hs51
          refine ret_of (.bool false) (by kernel_rfl) ⟨_, ⟨(by contradiction), rfl⟩, hs57⟩
      ·
        have h48p : ¬ ((vapply ws l).1 = (vapply ws l).1) := of_decide_eq_false h48
        refine ops_set 33 (v := .bool false) (eq_bool_of (by kernel_rfl) h48) ?_
        refine ops_set 32 (v := .bool false) (eq_bool_of (by kernel_rfl) h48) ?_
        refine ops_run 8 (by kernel_rfl) ?_
        refine ops_done (by kernel_rfl) ?_
        refine hK47 _ _ ?_
        refine W.ret ?_
        have hs58 : St B w [] w44 [] := St.take (H := []) hs46
        refine ret_of (.bool false) (by kernel_rfl) ⟨_, ⟨(by contradiction), rfl⟩, hs58⟩

end Go.Proofs.Ythimamnblklkbaa
