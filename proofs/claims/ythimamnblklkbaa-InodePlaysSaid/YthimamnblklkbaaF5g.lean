/- Of no view; the anchor of layer 5, by a program. -/
import Derived.Test.YthimamnblklkbaaF5f
namespace Go.Proofs.Ythimamnblklkbaa
open Go Go.RowKit
set_option linter.unusedSimpArgs false
set_option linter.unusedVariables false

set_option maxRecDepth 20000 in
theorem len_nil  (B : Nat) (w : World) : Spec Try.prog 29 #[(.pointer none)] B w [] (fun v H' => v = (.int .i64 0) ∧ H' = []) := by
  refine spec_Q Try.func29 rfl fun hs => ?_
  refine W.seq fun K1 hK1 => ?_
  refine W.region ?_
  refine ops_run 1 (by kernel_rfl) ?_
  refine ops_done (by kernel_rfl) ?_
  refine hK1 _ _ ?_
  clear hK1
  refine W.seq fun K2 hK2 => ?_
  refine W.seq fun K3 hK3 => ?_
  refine W.region ?_
  refine ops_run 2 (by kernel_rfl) ?_
  refine ops_done (by kernel_rfl) ?_
  refine hK3 _ _ ?_
  clear hK3
  refine W.cond_true true (by kernel_rfl) rfl ?_
  refine W.seq fun K4 hK4 => ?_
  refine W.region ?_
  refine ops_run 1 (by kernel_rfl) ?_
  refine ops_done (by kernel_rfl) ?_
  refine hK4 _ _ ?_
  clear hK4
  refine W.ret (ret_seq ?_)
  refine ret_of (.int .i64 0) (by kernel_rfl) ⟨_, ⟨rfl, rfl⟩, hs⟩

set_option maxRecDepth 20000 in
theorem put_nil {at_ x_ : Int} (B : Nat) (w : World) : Spec Try.prog 19 #[(.pointer none), (.int .i64 at_), (.int .u64 x_)] B w [] (fun v H' => v = (.int .i64 2) ∧ H' = []) := by
  refine spec_Q Try.func19 rfl fun hs => ?_
  refine W.seq fun K1 hK1 => ?_
  refine W.region ?_
  refine ops_run 1 (by kernel_rfl) ?_
  refine ops_done (by kernel_rfl) ?_
  refine hK1 _ _ ?_
  clear hK1
  refine W.seq fun K2 hK2 => ?_
  refine W.seq fun K3 hK3 => ?_
  refine W.region ?_
  refine ops_run 2 (by kernel_rfl) ?_
  refine ops_done (by kernel_rfl) ?_
  refine hK3 _ _ ?_
  clear hK3
  refine W.cond_true true (by kernel_rfl) rfl ?_
  refine W.seq fun K4 hK4 => ?_
  refine W.region ?_
  refine ops_run 1 (by kernel_rfl) ?_
  refine ops_done (by kernel_rfl) ?_
  refine hK4 _ _ ?_
  clear hK4
  refine W.ret (ret_seq ?_)
  refine ret_of (.int .i64 2) (by kernel_rfl) ⟨_, ⟨rfl, rfl⟩, hs⟩

set_option maxRecDepth 20000 in
theorem writes_nil  (B : Nat) (w : World) : Spec Try.prog 20 #[(.pointer none)] B w [] (fun v H' => v = (.slice none 0 0) ∧ H' = []) := by
  refine spec_Q Try.func20 rfl fun hs => ?_
  refine W.seq fun K1 hK1 => ?_
  refine W.region ?_
  refine ops_run 1 (by kernel_rfl) ?_
  refine ops_done (by kernel_rfl) ?_
  refine hK1 _ _ ?_
  clear hK1
  refine W.seq fun K2 hK2 => ?_
  refine W.seq fun K3 hK3 => ?_
  refine W.region ?_
  refine ops_run 2 (by kernel_rfl) ?_
  refine ops_done (by kernel_rfl) ?_
  refine hK3 _ _ ?_
  clear hK3
  refine W.cond_true true (by kernel_rfl) rfl ?_
  refine W.seq fun K4 hK4 => ?_
  refine W.region ?_
  refine ops_run 1 (by kernel_rfl) ?_
  refine ops_done (by kernel_rfl) ?_
  refine hK4 _ _ ?_
  clear hK4
  refine W.ret (ret_seq ?_)
  refine ret_of (.slice none 0 0) (by kernel_rfl) ⟨_, ⟨rfl, rfl⟩, hs⟩

set_option maxRecDepth 20000 in
theorem flat_nil  (B : Nat) (w : World) : Spec Try.prog 21 #[(.pointer none)] B w [] (fun v H' => v = (.slice none 0 0) ∧ H' = []) := by
  refine spec_Q Try.func21 rfl fun hs => ?_
  refine W.seq fun K1 hK1 => ?_
  refine W.region ?_
  refine ops_run 1 (by kernel_rfl) ?_
  refine ops_done (by kernel_rfl) ?_
  refine hK1 _ _ ?_
  clear hK1
  refine W.seq fun K2 hK2 => ?_
  refine W.seq fun K3 hK3 => ?_
  refine W.region ?_
  refine ops_run 2 (by kernel_rfl) ?_
  refine ops_done (by kernel_rfl) ?_
  refine hK3 _ _ ?_
  clear hK3
  refine W.cond_true true (by kernel_rfl) rfl ?_
  refine W.seq fun K4 hK4 => ?_
  refine W.region ?_
  refine ops_run 1 (by kernel_rfl) ?_
  refine ops_done (by kernel_rfl) ?_
  refine hK4 _ _ ?_
  clear hK4
  refine W.ret (ret_seq ?_)
  refine ret_of (.slice none 0 0) (by kernel_rfl) ⟨_, ⟨rfl, rfl⟩, hs⟩

set_option maxRecDepth 20000 in
theorem drop_nil  (B : Nat) (w : World) : Spec Try.prog 25 #[(.pointer none)] B w [] (fun v H' => v = (.tuple #[]) ∧ H' = []) := by
  refine spec_Q Try.func25 rfl fun hs => ?_
  refine W.seq fun K1 hK1 => ?_
  refine W.region ?_
  refine ops_run 2 (by kernel_rfl) ?_
  refine ops_done (by kernel_rfl) ?_
  refine hK1 _ _ ?_
  clear hK1
  refine W.cond_false false (by kernel_rfl) rfl ?_
  refine W.skip ?_
  refine ret_ofN (.tuple #[]) (by kernel_rfl) ⟨_, ⟨rfl, rfl⟩, hs⟩

set_option maxRecDepth 20000 in
theorem has_nil {at_ : Int} (B : Nat) (w : World) : Spec Try.prog 46 #[(.pointer none), (.int .i64 at_)] B w [] (fun v H' => v = .bool false ∧ H' = []) := by
  refine spec_Q Try.func46 rfl fun hs => ?_
  refine W.seq fun K1 hK1 => ?_
  refine W.region ?_
  refine ops_run 1 (by kernel_rfl) ?_
  refine ops_done (by kernel_rfl) ?_
  refine hK1 _ _ ?_
  clear hK1
  refine W.seq fun K2 hK2 => ?_
  refine W.region ?_
  refine ops_run 3 (by kernel_rfl) ?_
  rcases Bool.eq_false_or_eq_true (decide (at_ ≥ 0)) with h3 | h3
  ·
    have h3p : at_ ≥ 0 := of_decide_eq_true h3
    refine ops_set 7 (v := .bool true) (eq_bool_of (by kernel_rfl) h3) ?_
    refine ops_set 6 (v := .bool true) (eq_bool_of (by kernel_rfl) h3) ?_
    refine ops_run 2 (by kernel_rfl) ?_
    refine ops_call (pre := []) hs (by kernel_rfl) (len_nil B _) ?_
    rintro _ _ w4 ⟨rfl, rfl⟩ hs5
    have hs6 : St B w [] w4 [] := hs5
    refine ops_run 3 (by kernel_rfl) ?_
    refine ops_done (by kernel_rfl) ?_
    refine hK2 _ _ ?_
    clear hK2
    refine W.ret ?_
    refine ret_of (.bool (decide (at_ < 0))) (by kernel_rfl) ⟨_, ⟨congrArg Value.bool (decide_eq_false (by omega)), rfl⟩, hs6⟩
  ·
    have h3p : ¬ (at_ ≥ 0) := of_decide_eq_false h3
    refine ops_set 7 (v := .bool false) (eq_bool_of (by kernel_rfl) h3) ?_
    refine ops_set 6 (v := .bool false) (eq_bool_of (by kernel_rfl) h3) ?_
    refine ops_run 6 (by kernel_rfl) ?_
    refine ops_done (by kernel_rfl) ?_
    refine hK2 _ _ ?_
    clear hK2
    refine W.ret ?_
    refine ret_of (.bool false) (by kernel_rfl) ⟨_, ⟨congrArg Value.bool rfl, rfl⟩, hs⟩

set_option maxRecDepth 20000 in
theorem get_nil {at_ : Int} (B : Nat) (w : World) : Spec Try.prog 22 #[(.pointer none), (.int .i64 at_)] B w [] (fun v H' => v = .int .u64 0 ∧ H' = []) := by
  refine spec_Q Try.func22 rfl fun hs => ?_
  refine W.seq fun K1 hK1 => ?_
  refine W.region ?_
  refine ops_run 1 (by kernel_rfl) ?_
  refine ops_done (by kernel_rfl) ?_
  refine hK1 _ _ ?_
  clear hK1
  refine W.seq fun K2 hK2 => ?_
  refine W.seq fun K3 hK3 => ?_
  refine W.region ?_
  refine ops_run 2 (by kernel_rfl) ?_
  refine ops_call (pre := []) hs (by kernel_rfl) (has_nil (at_ := at_) B _) ?_
  rintro _ _ w4 ⟨rfl, rfl⟩ hs5
  have hs6 : St B w [] w4 [] := hs5
  refine ops_run 1 (by kernel_rfl) ?_
  refine ops_done (by kernel_rfl) ?_
  refine hK3 _ _ ?_
  clear hK3
  refine W.cond_true true (by kernel_rfl) rfl ?_
  refine W.seq fun K7 hK7 => ?_
  refine W.region ?_
  refine ops_run 1 (by kernel_rfl) ?_
  refine ops_done (by kernel_rfl) ?_
  refine hK7 _ _ ?_
  clear hK7
  refine W.ret (ret_seq ?_)
  refine ret_of (.int .u64 0) (by kernel_rfl) ⟨_, ⟨rfl, rfl⟩, hs6⟩

set_option maxRecDepth 20000 in
set_option linter.unusedVariables false in
theorem works5_spec  (B : Nat) (w : World) : Spec Try.prog 14 #[] B w [] (fun v H' => v = .bool true ∧ H' = []) := by
  refine spec_Q Try.func14 rfl fun hs => ?_
  refine W.seq fun K1 hK1 => ?_
  refine W.region ?_
  refine ops_run 1 (by kernel_rfl) ?_
  refine ops_done (by kernel_rfl) ?_
  refine hK1 _ _ ?_
  clear hK1
  refine W.seq fun K2 hK2 => ?_
  refine W.region ?_
  refine ops_new (fun b => .slice (some ⟨b, 0, none⟩) 2 2) (.cells [(.int .u64 5), (.int .u64 6)].toArray 33 (0, 0)) hs (by kernel_rfl) (fun b5 w3 hs4 => ?_)
  have hs6 : St B w [] w3 [kU64.row (some ⟨b5, 0, none⟩) 2 ([5, 6])] := St.kblk kU64 [5, 6] hs4 rfl rfl (by simp only [List.length_cons, List.length_nil]; decide)
  refine ops_call (pre := []) hs6 (by kernel_rfl) (new_spec (hc := (St.kcells kU64 hs6 0 rfl)) (hn := (St.capnil kU64 hs6 0 rfl)) (hsz := (by decide)) B _) ?_
  rintro _ _ w8 ⟨b7, rfl, rfl⟩ hs9
  have hs10 : St B w [] w8 [viewA (ptr b7) ([5, 6]) ([]), kU64.row (some ⟨b5, 0, none⟩) 2 ([5, 6])] := hs9
  refine ops_run 1 (by kernel_rfl) ?_
  refine ops_done (by kernel_rfl) ?_
  refine hK2 _ _ ?_
  clear hK2
  refine W.seq fun K11 hK11 => ?_
  refine W.seq fun K12 hK12 => ?_
  refine W.region ?_
  refine ops_run 2 (by kernel_rfl) ?_
  refine ops_done (by kernel_rfl) ?_
  refine hK12 _ _ ?_
  clear hK12
  refine W.cond_false false (by kernel_rfl) rfl ?_
  refine W.skip ?_
  refine hK11 _ _ ?_
  clear hK11
  refine W.seq fun K13 hK13 => ?_
  refine W.region ?_
  refine ops_run 1 (by kernel_rfl) ?_
  refine ops_call (pre := [viewA (ptr b7) ([5, 6]) ([])]) hs10 (by kernel_rfl) (put_spec (p := (.pointer (some ⟨b7, 0, none⟩))) (img := [5, 6]) (l := []) (at_ := 1) (x_ := 9) B _) ?_
  rintro _ _ w14 ⟨rfl, rfl⟩ hs15
  have hs16 : St B w [] w14 [viewA (ptr b7) ([5, 6]) ((vput ([5, 6]) ([]) 1 9).2), kU64.row (some ⟨b5, 0, none⟩) 2 ([5, 6])] := hs15
  have he18 : vput [5, 6] [] 1 9 = (0, [(1, 9)]) := by decide
  have hs17 : St B w [] w14 [viewA (ptr b7) ([5, 6]) ([(1, 9)]), kU64.row (some ⟨b5, 0, none⟩) 2 ([5, 6])] := by have h_ := hs16; rw [eqPut he18] at h_; exact h_
  refine ops_done (by kernel_rfl) ?_
  refine hK13 _ _ ?_
  clear hK13
  refine W.seq fun K19 hK19 => ?_
  refine W.region ?_
  refine ops_run 1 (by kernel_rfl) ?_
  refine ops_call (pre := [viewA (ptr b7) ([5, 6]) ([(1, 9)])]) hs17 (by kernel_rfl) (put_spec (p := (.pointer (some ⟨b7, 0, none⟩))) (img := [5, 6]) (l := [(1, 9)]) (at_ := 0) (x_ := 5) B _) ?_
  rintro _ _ w20 ⟨rfl, rfl⟩ hs21
  have hs22 : St B w [] w20 [viewA (ptr b7) ([5, 6]) ((vput ([5, 6]) ([(1, 9)]) 0 5).2), kU64.row (some ⟨b5, 0, none⟩) 2 ([5, 6])] := hs21
  have he24 : vput [5, 6] [(1, 9)] 0 5 = (0, [(1, 9), (0, 5)]) := by decide
  have hs23 : St B w [] w20 [viewA (ptr b7) ([5, 6]) ([(1, 9), (0, 5)]), kU64.row (some ⟨b5, 0, none⟩) 2 ([5, 6])] := by have h_ := hs22; rw [eqPut he24] at h_; exact h_
  refine ops_done (by kernel_rfl) ?_
  refine hK19 _ _ ?_
  clear hK19
  refine W.seq fun K25 hK25 => ?_
  refine W.region ?_
  refine ops_run 1 (by kernel_rfl) ?_
  refine ops_call (pre := [viewA (ptr b7) ([5, 6]) ([(1, 9), (0, 5)])]) hs23 (by kernel_rfl) (put_spec (p := (.pointer (some ⟨b7, 0, none⟩))) (img := [5, 6]) (l := [(1, 9), (0, 5)]) (at_ := 1) (x_ := 8) B _) ?_
  rintro _ _ w26 ⟨rfl, rfl⟩ hs27
  have hs28 : St B w [] w26 [viewA (ptr b7) ([5, 6]) ((vput ([5, 6]) ([(1, 9), (0, 5)]) 1 8).2), kU64.row (some ⟨b5, 0, none⟩) 2 ([5, 6])] := hs27
  have he30 : vput [5, 6] [(1, 9), (0, 5)] 1 8 = (0, [(1, 8), (0, 5)]) := by decide
  have hs29 : St B w [] w26 [viewA (ptr b7) ([5, 6]) ([(1, 8), (0, 5)]), kU64.row (some ⟨b5, 0, none⟩) 2 ([5, 6])] := by have h_ := hs28; rw [eqPut he30] at h_; exact h_
  refine ops_run 1 (by kernel_rfl) ?_
  refine ops_done (by kernel_rfl) ?_
  refine hK25 _ _ ?_
  clear hK25
  refine W.seq fun K31 hK31 => ?_
  refine W.region ?_
  refine ops_run 4 (by kernel_rfl) ?_
  refine ops_call (pre := []) hs29 (by kernel_rfl) (writes_spec (hv := (hs29.entAt 0 rfl viewA_at)) B _) ?_
  rintro _ _ w34 ⟨a32, c33, rfl, rfl⟩ hs35
  have hs36 : St B w [] w34 [kWr.row a32 c33 ([(1, 8), (0, 5)]), viewA (ptr b7) ([5, 6]) ([(1, 8), (0, 5)]), kU64.row (some ⟨b5, 0, none⟩) 2 ([5, 6])] := hs35
  refine ops_run 2 (by kernel_rfl) ?_
  refine ops_new (fun b => .slice (some ⟨b, 0, none⟩) 2 2) (.cells [(.int .i64 1), (.int .u64 8), (.int .i64 0), (.int .u64 5)].toArray 48 (0, 0)) hs36 (by kernel_rfl) (fun b39 w37 hs38 => ?_)
  have hs40 : St B w [] w37 [kWr.row (some ⟨b39, 0, none⟩) 2 ([(1, 8), (0, 5)]), kWr.row a32 c33 ([(1, 8), (0, 5)]), viewA (ptr b7) ([5, 6]) ([(1, 8), (0, 5)]), kU64.row (some ⟨b5, 0, none⟩) 2 ([5, 6])] := St.kblk kWr [(1, 8), (0, 5)] hs38 rfl rfl (by simp only [List.length_cons, List.length_nil]; decide)
  refine ops_call (pre := []) hs40 (by kernel_rfl) (same05_spec (xs := [(1, 8), (0, 5)]) (ys := [(1, 8), (0, 5)]) (xc := c33) (yc := 2) (n := ([(1, 8), (0, 5)]).length) (m := 2) (hn := rfl) (hm := rfl) (hx := (St.kcells kWr hs40 1 rfl)) (hy := (St.kcells kWr hs40 0 rfl)) (hsz := (by decide)) B _) ?_
  rintro _ _ w41 ⟨rfl, rfl⟩ hs42
  have hs43 : St B w [] w41 [kWr.row (some ⟨b39, 0, none⟩) 2 ([(1, 8), (0, 5)]), kWr.row a32 c33 ([(1, 8), (0, 5)]), viewA (ptr b7) ([5, 6]) ([(1, 8), (0, 5)]), kU64.row (some ⟨b5, 0, none⟩) 2 ([5, 6])] := hs42
  refine ops_run 3 (by kernel_rfl) ?_
  refine ops_call (pre := []) hs43 (by kernel_rfl) (flat_spec (hv := (hs43.entAt 2 rfl viewA_at)) B _) ?_
  rintro _ _ w46 ⟨a44, c45, rfl, rfl⟩ hs47
  have hs48 : St B w [] w46 [kU64.row a44 c45 (vflat ([5, 6]) ([(1, 8), (0, 5)])), kWr.row (some ⟨b39, 0, none⟩) 2 ([(1, 8), (0, 5)]), kWr.row a32 c33 ([(1, 8), (0, 5)]), viewA (ptr b7) ([5, 6]) ([(1, 8), (0, 5)]), kU64.row (some ⟨b5, 0, none⟩) 2 ([5, 6])] := hs47
  refine ops_new (fun b => .slice (some ⟨b, 0, none⟩) 2 2) (.cells [(.int .u64 5), (.int .u64 8)].toArray 33 (0, 0)) hs48 (by kernel_rfl) (fun b51 w49 hs50 => ?_)
  have hs52 : St B w [] w49 [kU64.row (some ⟨b51, 0, none⟩) 2 ([5, 8]), kU64.row a44 c45 (vflat ([5, 6]) ([(1, 8), (0, 5)])), kWr.row (some ⟨b39, 0, none⟩) 2 ([(1, 8), (0, 5)]), kWr.row a32 c33 ([(1, 8), (0, 5)]), viewA (ptr b7) ([5, 6]) ([(1, 8), (0, 5)]), kU64.row (some ⟨b5, 0, none⟩) 2 ([5, 6])] := St.kblk kU64 [5, 8] hs50 rfl rfl (by simp only [List.length_cons, List.length_nil]; decide)
  refine ops_call (pre := []) hs52 (by kernel_rfl) (same03_spec (xs := (vflat ([5, 6]) ([(1, 8), (0, 5)]))) (ys := [5, 8]) (xc := c45) (yc := 2) (n := (vflat ([5, 6]) ([(1, 8), (0, 5)])).length) (m := 2) (hn := rfl) (hm := rfl) (hx := (St.kcells kU64 hs52 1 rfl)) (hy := (St.kcells kU64 hs52 0 rfl)) (hsz := (by decide)) B _) ?_
  rintro _ _ w53 ⟨rfl, rfl⟩ hs54
  have hs55 : St B w [] w53 [kU64.row (some ⟨b51, 0, none⟩) 2 ([5, 8]), kU64.row a44 c45 (vflat ([5, 6]) ([(1, 8), (0, 5)])), kWr.row (some ⟨b39, 0, none⟩) 2 ([(1, 8), (0, 5)]), kWr.row a32 c33 ([(1, 8), (0, 5)]), viewA (ptr b7) ([5, 6]) ([(1, 8), (0, 5)]), kU64.row (some ⟨b5, 0, none⟩) 2 ([5, 6])] := hs54
  refine ops_run 3 (by kernel_rfl) ?_
  have hs56 : St B w [] w53 [viewA (ptr b7) ([5, 6]) ([(1, 8), (0, 5)]), kU64.row (some ⟨b51, 0, none⟩) 2 ([5, 8]), kU64.row a44 c45 (vflat ([5, 6]) ([(1, 8), (0, 5)])), kWr.row (some ⟨b39, 0, none⟩) 2 ([(1, 8), (0, 5)]), kWr.row a32 c33 ([(1, 8), (0, 5)]), kU64.row (some ⟨b5, 0, none⟩) 2 ([5, 6])] := hs55.front 4 (by simp)
  refine ops_call (pre := [viewA (ptr b7) ([5, 6]) ([(1, 8), (0, 5)])]) hs56 (by kernel_rfl) (put_spec (p := (.pointer (some ⟨b7, 0, none⟩))) (img := [5, 6]) (l := [(1, 8), (0, 5)]) (at_ := 2) (x_ := 1) B _) ?_
  rintro _ _ w57 ⟨rfl, rfl⟩ hs58
  have hs59 : St B w [] w57 [viewA (ptr b7) ([5, 6]) ((vput ([5, 6]) ([(1, 8), (0, 5)]) 2 1).2), kU64.row (some ⟨b51, 0, none⟩) 2 ([5, 8]), kU64.row a44 c45 (vflat ([5, 6]) ([(1, 8), (0, 5)])), kWr.row (some ⟨b39, 0, none⟩) 2 ([(1, 8), (0, 5)]), kWr.row a32 c33 ([(1, 8), (0, 5)]), kU64.row (some ⟨b5, 0, none⟩) 2 ([5, 6])] := hs58
  have he61 : vput [5, 6] [(1, 8), (0, 5)] 2 1 = (8, [(1, 8), (0, 5)]) := by decide
  have hs60 : St B w [] w57 [viewA (ptr b7) ([5, 6]) ([(1, 8), (0, 5)]), kU64.row (some ⟨b51, 0, none⟩) 2 ([5, 8]), kU64.row a44 c45 (vflat ([5, 6]) ([(1, 8), (0, 5)])), kWr.row (some ⟨b39, 0, none⟩) 2 ([(1, 8), (0, 5)]), kWr.row a32 c33 ([(1, 8), (0, 5)]), kU64.row (some ⟨b5, 0, none⟩) 2 ([5, 6])] := by have h_ := hs59; rw [eqPut he61] at h_; exact h_
  refine ops_run 4 (by kernel_rfl) ?_
  refine ops_call (pre := []) hs60 (by kernel_rfl) (len_spec (hv := (hs60.entAt 0 rfl viewA_at)) B _) ?_
  rintro _ _ w62 ⟨rfl, rfl⟩ hs63
  have hs64 : St B w [] w62 [viewA (ptr b7) ([5, 6]) ([(1, 8), (0, 5)]), kU64.row (some ⟨b51, 0, none⟩) 2 ([5, 8]), kU64.row a44 c45 (vflat ([5, 6]) ([(1, 8), (0, 5)])), kWr.row (some ⟨b39, 0, none⟩) 2 ([(1, 8), (0, 5)]), kWr.row a32 c33 ([(1, 8), (0, 5)]), kU64.row (some ⟨b5, 0, none⟩) 2 ([5, 6])] := hs63
  refine ops_run 3 (by kernel_rfl) ?_
  refine ops_done (by kernel_rfl) ?_
  refine hK31 _ _ ?_
  clear hK31
  refine W.ret ?_
  have hs65 : St B w [] w62 [] := St.take (H := []) hs64
  refine ret_of (.bool true) (by kernel_rfl) ⟨_, ⟨rfl, rfl⟩, hs65⟩

end Go.Proofs.Ythimamnblklkbaa
