/- Contracts of layers 6 and 7, by a program. -/
import Derived.Test.YthimamnblklkbaaF6e
namespace Go.Proofs.Ythimamnblklkbaa
open Go Go.RowKit
set_option linter.unusedSimpArgs false
set_option linter.unusedVariables false

set_option maxRecDepth 20000 in
theorem rall_spec {b : Nat} {img : List Int} {l : List (Int × Int)} {at_ : Int} {la : Option Addr} {n lc : Nat} {ws : List Int} (B : Nat) (w : World) (hn : n = ws.length) (hsz : ws.length ≤ 1000000) (hat : -1 ≤ at_ ∧ at_ ≤ 1000000) : Spec Try.prog 61 #[(.pointer (some ⟨b, 0, none⟩)), (.int .i64 at_), (.slice la n lc)] B w [refA (ptr b) img l, kU64.row la lc ws] (fun v H' => v = .int .i64 (vwrites img at_ l 0 ws).1 ∧ H' = [refA (ptr b) img (vwrites img at_ l 0 ws).2]) := by
  refine spec_W Try.func61 rfl fun l0 hs => ?_
  subst hn
  refine W.seq fun K1 hK1 => ?_
  refine W.region ?_
  refine ops_run 1 (by kernel_rfl) ?_
  refine ops_done (by kernel_rfl) ?_
  refine hK1 _ _ ?_
  clear hK1
  refine W.seq fun K2 hK2 => ?_
  refine W.seq fun K3 hK3 => ?_
  refine W.region ?_
  refine ops_run 1 (by kernel_rfl) ?_
  refine ops_done (by kernel_rfl) ?_
  refine hK3 _ _ ?_
  clear hK3
  refine W.block ?_
  refine W.loop (G := Nat × List (Int × Int)) (fun | (k, m), s_, w_ => (∃ us, s_ = slots 27 [(0, (.pointer (some ⟨b, 0, none⟩))), (1, (.int .i64 at_)), (2, (.slice la ws.length lc)), (7, (.int .i64 (k : Int)))] us) ∧ St B w l0 w_ [refA (ptr b) img m, kU64.row la lc ws] ∧ (k ≤ ws.length) ∧ (vwrites img at_ l 0 ws = vwrites img at_ m (k : Int) (ws.drop k))) (fun | (k, m) => ws.length - k) (0, l) ⟨slots_intro _ (by kernel_rfl), hs, Nat.zero_le _, rfl⟩ ?_
  rintro ⟨k, m⟩ _ w4 ⟨⟨us, rfl⟩, hs5, hk_, hkm⟩
  refine W.seq fun K6 hK6 => ?_
  refine W.seq fun K7 hK7 => ?_
  refine W.region ?_
  refine ops_run 4 (by kernel_rfl) ?_
  refine ops_done (by kernel_rfl) ?_
  refine hK7 _ _ ?_
  clear hK7
  refine W.cond (decide ((k : Int) < (ws.length : Int))) (by kernel_rfl) (fun h8 => ?_) (fun h8 => ?_)
  ·
    have h8p : (k : Int) < (ws.length : Int) := of_decide_eq_true h8
    refine W.skip ?_
    refine hK6 _ _ ?_
    clear hK6
    refine W.seq fun K9 hK9 => ?_
    refine W.block ?_
    refine W.seq fun K10 hK10 => ?_
    refine W.region ?_
    refine ops_run 3 (by kernel_rfl) ?_
    refine ops_val (v := .int .i64 (IntKind.i64.wrap (at_ + (k : Int)))) (v' := .int .i64 (at_ + (k : Int))) (by kernel_rfl) (congrArg (Value.int .i64) (wrap_i64 (by omega) (by omega))) ?_
    refine ops_run 2 (by kernel_rfl) ?_
    have hk11 : k < ws.length := by omega
    refine ops_R (runs_index (a := la) (n := ws.length) (z := (k : Int)) (size := 1) k rfl hk11 (kU64.addr (St.kcells kU64 hs5 1 rfl) hk11) (by kernel_rfl)) ?_
    refine ops_R (runs_load (ad := ((adr la (k * 1)).add 0)) (v := (.int .u64 (ws.getD k 0))) (by kernel_rfl) (kU64.at (St.kcells kU64 hs5 1 rfl) hk11 0 0 rfl)) ?_
    refine ops_call (pre := [refA (ptr b) img m]) hs5 (by kernel_rfl) (rset_spec (b := b) (img := img) (l := m) (at_ := (at_ + (k : Int))) (x_ := (ws.getD k 0)) B _) ?_
    rintro _ _ w12 ⟨rfl, rfl⟩ hs13
    have hs14 : St B w l0 w12 [refA (ptr b) img ((vwrite img m (at_ + (k : Int)) (ws.getD k 0)).2), kU64.row la lc ws] := hs13
    refine ops_run 1 (by kernel_rfl) ?_
    refine ops_done (by kernel_rfl) ?_
    refine hK10 _ _ ?_
    clear hK10
    refine W.seq fun K15 hK15 => ?_
    refine W.region ?_
    refine ops_run 2 (by kernel_rfl) ?_
    refine ops_done (by kernel_rfl) ?_
    refine hK15 _ _ ?_
    clear hK15
    refine W.cond (!decide ((vwrite img m (at_ + (k : Int)) (ws.getD k 0)).1 = 0)) (by kernel_rfl) (fun h16 => ?_) (fun h16 => ?_)
    ·
      have h16p : ¬ ((vwrite img m (at_ + (k : Int)) (ws.getD k 0)).1 = 0) := of_decide_eq_false (bnot_true h16)
      refine W.seq fun K17 hK17 => ?_
      refine W.region ?_
      refine ops_run 2 (by kernel_rfl) ?_
      refine ops_done (by kernel_rfl) ?_
      refine hK17 _ _ ?_
      clear hK17
      refine W.ret (ret_block (ret_seq (ret_seq (ret_block (ret_seq ?_)))))
      have hs18 : St B w l0 w12 [refA (ptr b) img ((vwrite img m (at_ + (k : Int)) (ws.getD k 0)).2)] := St.take (H := [refA (ptr b) img ((vwrite img m (at_ + (k : Int)) (ws.getD k 0)).2)]) hs14
      have e_ : vwrites img at_ l 0 ws = vwrite img m (at_ + (k : Int)) (ws.getD k 0) := hkm.trans ((vwrites_step (by omega)).trans (if_neg (by assumption)))
      refine ret_of (.int .i64 ((vwrite img m (at_ + (k : Int)) (ws.getD k 0)).1)) (by kernel_rfl) ⟨_, ⟨by rw [e_], by rw [e_]⟩, hs18⟩
    ·
      have h16p : (vwrite img m (at_ + (k : Int)) (ws.getD k 0)).1 = 0 := of_decide_eq_true (bnot_false h16)
      refine W.skip ?_
      refine normal_block ?_
      refine hK9 _ _ ?_
      clear hK9
      refine W.region ?_
      refine ops_run 1 (by kernel_rfl) ?_
      refine ops_val (v := .int .i64 (IntKind.i64.wrap ((k : Int) + 1))) (v' := .int .i64 ((k + 1 : Nat) : Int)) (by kernel_rfl) (congrArg (Value.int .i64) (wrap_i64 (by omega) (by omega))) ?_
      refine ops_run 1 (by kernel_rfl) ?_
      refine ops_done (by kernel_rfl) ?_
      have e0_ : (vwrite img m (at_ + (k : Int)) (ws.getD k 0)).1 = 0 := by assumption
      have hk2 := (vwrites_step (img := img) (at_ := at_) (m := m) (ws := ws) (k := k) (by omega)).trans (if_pos e0_)
      exact ⟨(k + 1, (vwrite img m (at_ + (k : Int)) (ws.getD k 0)).2), ⟨slots_intro _ (by kernel_rfl), hs14, by omega, hkm.trans hk2⟩, by first | omega | (dsimp only; omega)⟩
  ·
    have h8p : ¬ ((k : Int) < (ws.length : Int)) := of_decide_eq_false h8
    refine W.exit (exit_seq (exit_seq (exit_here ?_)))
    refine hK2 _ _ ?_
    clear hK2
    refine W.seq fun K19 hK19 => ?_
    refine W.region ?_
    refine ops_run 1 (by kernel_rfl) ?_
    refine ops_done (by kernel_rfl) ?_
    refine hK19 _ _ ?_
    clear hK19
    refine W.ret ?_
    have hs20 : St B w l0 w4 [refA (ptr b) img m] := St.take (H := [refA (ptr b) img m]) hs5
    have e_ : vwrites img at_ l 0 ws = (0, m) := hkm.trans (by rw [List.drop_of_length_le (by omega)]; rfl)
    refine ret_of (.int .i64 0) (by kernel_rfl) ⟨_, ⟨by rw [e_], by rw [e_]⟩, hs20⟩

set_option maxRecDepth 20000 in
theorem ifind_nil {gw gi gb n_ : Int} (B : Nat) (w : World) : Spec Try.prog 56 #[(.pointer none), (.agg #[(.int .i64 gw), (.int .i64 gi), (.int .i64 gb)]), (.int .i64 n_)] B w [] (fun v H' => v = .tuple #[.int .i64 0, .int .i64 2] ∧ H' = []) := by
  refine spec_Q Try.func56 rfl fun hs => ?_
  refine W.seq fun K1 hK1 => ?_
  refine W.region ?_
  refine ops_new (fun b => .pointer (some ⟨b, 0, none⟩)) (.cells [(.int .i64 gw), (.int .i64 gi), (.int .i64 gb)].toArray 56 (0, 0)) hs (by kernel_rfl) (fun b4 w2 hs3 => ?_)
  refine ops_run 2 (by kernel_rfl) ?_
  refine ops_done (by kernel_rfl) ?_
  refine hK1 _ _ ?_
  clear hK1
  refine W.seq fun K5 hK5 => ?_
  refine W.region ?_
  refine ops_R (runs_loadAgg (ad := ⟨b4, 0, none⟩) (cs := [(.int .i64 gw), (.int .i64 gi), (.int .i64 gb)]) (by kernel_rfl) (cells_sub (hs3.heapAt 0 rfl) rfl)) ?_
  refine ops_run 1 (by kernel_rfl) ?_
  refine ops_call (pre := []) hs3 (by kernel_rfl) (inodeat_spec (gw := gw) (gi := gi) (gb := gb) (n_ := n_) B _) ?_
  rintro _ _ w6 ⟨rfl, rfl⟩ hs7
  have hs8 : St B w [] w6 [blk b4 (.cells [(.int .i64 gw), (.int .i64 gi), (.int .i64 gb)].toArray 56 (0, 0))] := hs7
  refine ops_run 1 (by kernel_rfl) ?_
  refine ops_done (by kernel_rfl) ?_
  refine hK5 _ _ ?_
  clear hK5
  refine W.seq fun K9 hK9 => ?_
  refine W.block ?_
  refine W.seq fun K10 hK10 => ?_
  refine W.region ?_
  refine ops_run 3 (by kernel_rfl) ?_
  refine ops_done (by kernel_rfl) ?_
  refine hK10 _ _ ?_
  clear hK10
  refine W.cond_true true (by kernel_rfl) rfl ?_
  refine W.seq fun K11 hK11 => ?_
  refine W.region ?_
  refine ops_run 2 (by kernel_rfl) ?_
  refine ops_done (by kernel_rfl) ?_
  refine hK11 _ _ ?_
  clear hK11
  refine W.ret (ret_block (ret_seq ?_))
  have hs12 : St B w [] w6 [] := St.take (H := []) hs8
  refine ret_of (.tuple #[(.int .i64 0), (.int .i64 2)]) (by kernel_rfl) ⟨_, ⟨rfl, rfl⟩, hs12⟩

set_option maxRecDepth 20000 in
theorem ifind_spec {b : Nat} {img : List Int} {l : List (Int × Int)} {gw gi gb n_ : Int} (B : Nat) (w : World) (hv : ViewAt (ptr b) img l w) : Spec Try.prog 56 #[(.pointer (some ⟨b, 0, none⟩)), (.agg #[(.int .i64 gw), (.int .i64 gi), (.int .i64 gb)]), (.int .i64 n_)] B w [] (fun v H' => v = .tuple #[.int .i64 (ifind (img.length : Int) gw gi gb n_).1, .int .i64 (ifind (img.length : Int) gw gi gb n_).2] ∧ H' = []) := by
  refine spec_Q Try.func56 rfl fun hs => ?_
  refine W.seq fun K1 hK1 => ?_
  refine W.region ?_
  refine ops_new (fun b => .pointer (some ⟨b, 0, none⟩)) (.cells [(.int .i64 gw), (.int .i64 gi), (.int .i64 gb)].toArray 56 (0, 0)) hs (by kernel_rfl) (fun b4 w2 hs3 => ?_)
  refine ops_run 2 (by kernel_rfl) ?_
  refine ops_done (by kernel_rfl) ?_
  refine hK1 _ _ ?_
  clear hK1
  refine W.seq fun K5 hK5 => ?_
  refine W.region ?_
  refine ops_R (runs_loadAgg (ad := ⟨b4, 0, none⟩) (cs := [(.int .i64 gw), (.int .i64 gi), (.int .i64 gb)]) (by kernel_rfl) (cells_sub (hs3.heapAt 0 rfl) rfl)) ?_
  refine ops_run 1 (by kernel_rfl) ?_
  refine ops_call (pre := []) hs3 (by kernel_rfl) (inodeat_spec (gw := gw) (gi := gi) (gb := gb) (n_ := n_) B _) ?_
  rintro _ _ w6 ⟨rfl, rfl⟩ hs7
  have hs8 : St B w [] w6 [blk b4 (.cells [(.int .i64 gw), (.int .i64 gi), (.int .i64 gb)].toArray 56 (0, 0))] := hs7
  refine ops_run 1 (by kernel_rfl) ?_
  refine ops_done (by kernel_rfl) ?_
  refine hK5 _ _ ?_
  clear hK5
  refine W.seq fun K9 hK9 => ?_
  refine W.block ?_
  refine W.seq fun K10 hK10 => ?_
  refine W.region ?_
  refine ops_run 3 (by kernel_rfl) ?_
  refine ops_done (by kernel_rfl) ?_
  refine hK10 _ _ ?_
  clear hK10
  refine W.cond_false false (by kernel_rfl) rfl ?_
  refine W.seq fun K11 hK11 => ?_
  refine W.seq fun K12 hK12 => ?_
  refine W.region ?_
  refine ops_run 3 (by kernel_rfl) ?_
  refine ops_done (by kernel_rfl) ?_
  refine hK12 _ _ ?_
  clear hK12
  refine W.cond (decide ((placeOf 8 gw gi gb n_) < 0)) (by kernel_rfl) (fun h13 => ?_) (fun h13 => ?_)
  ·
    have h13p : (placeOf 8 gw gi gb n_) < 0 := of_decide_eq_true h13
    refine W.skip ?_
    refine hK11 _ _ ?_
    clear hK11
    refine W.cond (decide ((placeOf 8 gw gi gb n_) < 0)) (by kernel_rfl) (fun h14 => ?_) (fun h14 => ?_)
    ·
      have h14p : (placeOf 8 gw gi gb n_) < 0 := of_decide_eq_true h14
      refine W.seq fun K15 hK15 => ?_
      refine W.region ?_
      refine ops_run 2 (by kernel_rfl) ?_
      refine ops_done (by kernel_rfl) ?_
      refine hK15 _ _ ?_
      clear hK15
      refine W.ret (ret_block (ret_seq ?_))
      have hs16 : St B w [] w6 [] := St.take (H := []) hs8
      have e1_ : (ifind (img.length : Int) gw gi gb n_).1 = 0 := by first | (exfalso; omega) | (simp only [ifind]; rw [if_pos (by omega)]) | (simp only [ifind]; rw [if_neg (by omega), if_pos (by omega)]) | (simp only [ifind]; rw [if_neg (by omega), if_neg (by omega)])
      have e2_ : (ifind (img.length : Int) gw gi gb n_).2 = 1 := by first | (exfalso; omega) | (simp only [ifind]; rw [if_pos (by omega)]) | (simp only [ifind]; rw [if_neg (by omega), if_pos (by omega)]) | (simp only [ifind]; rw [if_neg (by omega), if_neg (by omega)])
      refine ret_of (.tuple #[(.int .i64 0), (.int .i64 1)]) (by kernel_rfl) ⟨_, ⟨by rw [e1_, e2_], rfl⟩, hs16⟩
    ·
      have h14p : ¬ ((placeOf 8 gw gi gb n_) < 0) := of_decide_eq_false h14
      refine W.seq fun K17 hK17 => ?_
      have hs18 := hs8.drew
      refine W.regionD [(0, 0), (1, 1), (0, 0), (6, 4), (10, 10), (24, 16)] (fun w_ => St B w [] w_ [blk b4 (.cells [(.int .i64 gw), (.int .i64 gi), (.int .i64 gb)].toArray 56 (0, 0))]) (by kernel_rfl) hs18 ?_
      refine any_val (v := (.pointer (some ⟨b, 0, none⟩))) (v' := (.pointer (some ⟨b, 0, none⟩))) 0 (by kernel_rfl) (fun _ => by kernel_rfl) rfl hs18 ?_
      refine any_R 2 (by kernel_rfl) (fun _ hS_ => runs_loadAgg (ad := ⟨b4, 0, none⟩) (cs := [(.int .i64 gw), (.int .i64 gi), (.int .i64 gb)]) (by kernel_rfl) (cells_sub (hS_.heapAt 0 rfl) rfl)) hs18 ?_
      refine any_step 1 (by kernel_rfl) (by kernel_rfl) ?_
      refine ops_call (pre := []) hs18 (by kernel_rfl) (len_spec (hv := (viewAt_old hs18 hv)) B _) ?_
      rintro _ _ w19 ⟨rfl, rfl⟩ hs20
      have hs21 : St B w [] w19 [blk b4 (.cells [(.int .i64 gw), (.int .i64 gi), (.int .i64 gb)].toArray 56 (0, 0))] := hs20
      refine ops_done (by kernel_rfl) ⟨hs21, ?_⟩
      refine any_step 3 (by kernel_rfl) (by kernel_rfl) ?_
      refine ops_call (pre := []) hs21 (by kernel_rfl) (words_spec (gw := gw) (gi := gi) (gb := gb) B _) ?_
      rintro _ _ w22 ⟨rfl, rfl⟩ hs23
      have hs24 : St B w [] w22 [blk b4 (.cells [(.int .i64 gw), (.int .i64 gi), (.int .i64 gb)].toArray 56 (0, 0))] := hs23
      refine ops_done (by kernel_rfl) ⟨hs24, ?_⟩
      refine any_val (v := (.bool (decide ((img.length : Int) < (wordsOf gw gi gb))))) (v' := (.bool (decide ((img.length : Int) < (wordsOf gw gi gb))))) 4 (by kernel_rfl) (fun _ => by kernel_rfl) rfl hs24 ?_
      refine any_val (v := (.bool (decide ((img.length : Int) < (wordsOf gw gi gb))))) (v' := (.bool (decide ((img.length : Int) < (wordsOf gw gi gb))))) 5 (by kernel_rfl) (fun _ => by kernel_rfl) rfl hs24 ?_
      refine any_done (by kernel_rfl) ?_
      refine hK17 _ _ ?_
      clear hK17
      refine W.cond (decide ((img.length : Int) < (wordsOf gw gi gb))) (by kernel_rfl) (fun h25 => ?_) (fun h25 => ?_)
      ·
        have h25p : (img.length : Int) < (wordsOf gw gi gb) := of_decide_eq_true h25
        refine W.seq fun K26 hK26 => ?_
        refine W.region ?_
        refine ops_run 2 (by kernel_rfl) ?_
        refine ops_done (by kernel_rfl) ?_
        refine hK26 _ _ ?_
        clear hK26
        refine W.ret (ret_block (ret_seq ?_))
        have hs27 : St B w [] w22 [] := St.take (H := []) hs24
        have e1_ : (ifind (img.length : Int) gw gi gb n_).1 = 0 := by first | (exfalso; omega) | (simp only [ifind]; rw [if_pos (by omega)]) | (simp only [ifind]; rw [if_neg (by omega), if_pos (by omega)]) | (simp only [ifind]; rw [if_neg (by omega), if_neg (by omega)])
        have e2_ : (ifind (img.length : Int) gw gi gb n_).2 = 8 := by first | (exfalso; omega) | (simp only [ifind]; rw [if_pos (by omega)]) | (simp only [ifind]; rw [if_neg (by omega), if_pos (by omega)]) | (simp only [ifind]; rw [if_neg (by omega), if_neg (by omega)])
        refine ret_of (.tuple #[(.int .i64 0), (.int .i64 8)]) (by kernel_rfl) ⟨_, ⟨by rw [e1_, e2_], rfl⟩, hs27⟩
      ·
        have h25p : ¬ ((img.length : Int) < (wordsOf gw gi gb)) := of_decide_eq_false h25
        refine W.skip ?_
        refine normal_block ?_
        refine hK9 _ _ ?_
        clear hK9
        refine W.seq fun K28 hK28 => ?_
        refine W.region ?_
        refine ops_run 3 (by kernel_rfl) ?_
        refine ops_done (by kernel_rfl) ?_
        refine hK28 _ _ ?_
        clear hK28
        refine W.ret ?_
        have hs29 : St B w [] w22 [] := St.take (H := []) hs24
        have e1_ : (ifind (img.length : Int) gw gi gb n_).1 = (placeOf 8 gw gi gb n_) := by first | (exfalso; omega) | (simp only [ifind]; rw [if_pos (by omega)]) | (simp only [ifind]; rw [if_neg (by omega), if_pos (by omega)]) | (simp only [ifind]; rw [if_neg (by omega), if_neg (by omega)])
        have e2_ : (ifind (img.length : Int) gw gi gb n_).2 = 0 := by first | (exfalso; omega) | (simp only [ifind]; rw [if_pos (by omega)]) | (simp only [ifind]; rw [if_neg (by omega), if_pos (by omega)]) | (simp only [ifind]; rw [if_neg (by omega), if_neg (by omega)])
        refine ret_of (.tuple #[(.int .i64 (placeOf 8 gw gi gb n_)), (.int .i64 0)]) (by kernel_rfl) ⟨_, ⟨by rw [e1_, e2_], rfl⟩, hs29⟩
  ·
    have h13p : ¬ ((placeOf 8 gw gi gb n_) < 0) := of_decide_eq_false h13
    refine W.region ?_
    refine ops_run 3 (by kernel_rfl) ?_
    refine ops_done (by kernel_rfl) ?_
    refine hK11 _ _ ?_
    clear hK11
    refine W.cond (decide (n_ = 0)) (by kernel_rfl) (fun h30 => ?_) (fun h30 => ?_)
    ·
      have h30p : n_ = 0 := of_decide_eq_true h30
      refine W.seq fun K31 hK31 => ?_
      refine W.region ?_
      refine ops_run 2 (by kernel_rfl) ?_
      refine ops_done (by kernel_rfl) ?_
      refine hK31 _ _ ?_
      clear hK31
      refine W.ret (ret_block (ret_seq ?_))
      have hs32 : St B w [] w6 [] := St.take (H := []) hs8
      have e1_ : (ifind (img.length : Int) gw gi gb n_).1 = 0 := by first | (exfalso; omega) | (simp only [ifind]; rw [if_pos (by omega)]) | (simp only [ifind]; rw [if_neg (by omega), if_pos (by omega)]) | (simp only [ifind]; rw [if_neg (by omega), if_neg (by omega)])
      have e2_ : (ifind (img.length : Int) gw gi gb n_).2 = 1 := by first | (exfalso; omega) | (simp only [ifind]; rw [if_pos (by omega)]) | (simp only [ifind]; rw [if_neg (by omega), if_pos (by omega)]) | (simp only [ifind]; rw [if_neg (by omega), if_neg (by omega)])
      refine ret_of (.tuple #[(.int .i64 0), (.int .i64 1)]) (by kernel_rfl) ⟨_, ⟨by rw [e1_, e2_], rfl⟩, hs32⟩
    ·
      have h30p : ¬ (n_ = 0) := of_decide_eq_false h30
      refine W.seq fun K33 hK33 => ?_
      have hs34 := hs8.drew
      refine W.regionD [(0, 0), (1, 1), (0, 0), (6, 4), (10, 10), (24, 16)] (fun w_ => St B w [] w_ [blk b4 (.cells [(.int .i64 gw), (.int .i64 gi), (.int .i64 gb)].toArray 56 (0, 0))]) (by kernel_rfl) hs34 ?_
      refine any_val (v := (.pointer (some ⟨b, 0, none⟩))) (v' := (.pointer (some ⟨b, 0, none⟩))) 0 (by kernel_rfl) (fun _ => by kernel_rfl) rfl hs34 ?_
      refine any_R 2 (by kernel_rfl) (fun _ hS_ => runs_loadAgg (ad := ⟨b4, 0, none⟩) (cs := [(.int .i64 gw), (.int .i64 gi), (.int .i64 gb)]) (by kernel_rfl) (cells_sub (hS_.heapAt 0 rfl) rfl)) hs34 ?_
      refine any_step 1 (by kernel_rfl) (by kernel_rfl) ?_
      refine ops_call (pre := []) hs34 (by kernel_rfl) (len_spec (hv := (viewAt_old hs34 hv)) B _) ?_
      rintro _ _ w35 ⟨rfl, rfl⟩ hs36
      have hs37 : St B w [] w35 [blk b4 (.cells [(.int .i64 gw), (.int .i64 gi), (.int .i64 gb)].toArray 56 (0, 0))] := hs36
      refine ops_done (by kernel_rfl) ⟨hs37, ?_⟩
      refine any_step 3 (by kernel_rfl) (by kernel_rfl) ?_
      refine ops_call (pre := []) hs37 (by kernel_rfl) (words_spec (gw := gw) (gi := gi) (gb := gb) B _) ?_
      rintro _ _ w38 ⟨rfl, rfl⟩ hs39
      have hs40 : St B w [] w38 [blk b4 (.cells [(.int .i64 gw), (.int .i64 gi), (.int .i64 gb)].toArray 56 (0, 0))] := hs39
      refine ops_done (by kernel_rfl) ⟨hs40, ?_⟩
      refine any_val (v := (.bool (decide ((img.length : Int) < (wordsOf gw gi gb))))) (v' := (.bool (decide ((img.length : Int) < (wordsOf gw gi gb))))) 4 (by kernel_rfl) (fun _ => by kernel_rfl) rfl hs40 ?_
      refine any_val (v := (.bool (decide ((img.length : Int) < (wordsOf gw gi gb))))) (v' := (.bool (decide ((img.length : Int) < (wordsOf gw gi gb))))) 5 (by kernel_rfl) (fun _ => by kernel_rfl) rfl hs40 ?_
      refine any_done (by kernel_rfl) ?_
      refine hK33 _ _ ?_
      clear hK33
      refine W.cond (decide ((img.length : Int) < (wordsOf gw gi gb))) (by kernel_rfl) (fun h41 => ?_) (fun h41 => ?_)
      ·
        have h41p : (img.length : Int) < (wordsOf gw gi gb) := of_decide_eq_true h41
        refine W.seq fun K42 hK42 => ?_
        refine W.region ?_
        refine ops_run 2 (by kernel_rfl) ?_
        refine ops_done (by kernel_rfl) ?_
        refine hK42 _ _ ?_
        clear hK42
        refine W.ret (ret_block (ret_seq ?_))
        have hs43 : St B w [] w38 [] := St.take (H := []) hs40
        have e1_ : (ifind (img.length : Int) gw gi gb n_).1 = 0 := by first | (exfalso; omega) | (simp only [ifind]; rw [if_pos (by omega)]) | (simp only [ifind]; rw [if_neg (by omega), if_pos (by omega)]) | (simp only [ifind]; rw [if_neg (by omega), if_neg (by omega)])
        have e2_ : (ifind (img.length : Int) gw gi gb n_).2 = 8 := by first | (exfalso; omega) | (simp only [ifind]; rw [if_pos (by omega)]) | (simp only [ifind]; rw [if_neg (by omega), if_pos (by omega)]) | (simp only [ifind]; rw [if_neg (by omega), if_neg (by omega)])
        refine ret_of (.tuple #[(.int .i64 0), (.int .i64 8)]) (by kernel_rfl) ⟨_, ⟨by rw [e1_, e2_], rfl⟩, hs43⟩
      ·
        have h41p : ¬ ((img.length : Int) < (wordsOf gw gi gb)) := of_decide_eq_false h41
        refine W.skip ?_
        refine normal_block ?_
        refine hK9 _ _ ?_
        clear hK9
        refine W.seq fun K44 hK44 => ?_
        refine W.region ?_
        refine ops_run 3 (by kernel_rfl) ?_
        refine ops_done (by kernel_rfl) ?_
        refine hK44 _ _ ?_
        clear hK44
        refine W.ret ?_
        have hs45 : St B w [] w38 [] := St.take (H := []) hs40
        have e1_ : (ifind (img.length : Int) gw gi gb n_).1 = (placeOf 8 gw gi gb n_) := by first | (exfalso; omega) | (simp only [ifind]; rw [if_pos (by omega)]) | (simp only [ifind]; rw [if_neg (by omega), if_pos (by omega)]) | (simp only [ifind]; rw [if_neg (by omega), if_neg (by omega)])
        have e2_ : (ifind (img.length : Int) gw gi gb n_).2 = 0 := by first | (exfalso; omega) | (simp only [ifind]; rw [if_pos (by omega)]) | (simp only [ifind]; rw [if_neg (by omega), if_pos (by omega)]) | (simp only [ifind]; rw [if_neg (by omega), if_neg (by omega)])
        refine ret_of (.tuple #[(.int .i64 (placeOf 8 gw gi gb n_)), (.int .i64 0)]) (by kernel_rfl) ⟨_, ⟨by rw [e1_, e2_], rfl⟩, hs45⟩

set_option maxRecDepth 20000 in
theorem iwords_spec {x_ : Nd} (B : Nat) (w : World) : Spec Try.prog 58 #[(.agg #[(.int .u64 x_.k), (.int .u64 x_.l), (.int .u64 x_.o), (.int .u64 x_.s), (.int .u64 x_.a), (.int .u64 x_.b), (.int .u64 x_.c), (.int .u64 x_.d), (.int .u64 x_.e), (.int .u64 x_.m)])] B w [] (fun v H' => v = (.agg #[(.int .u64 x_.k), (.int .u64 x_.l), (.int .u64 x_.o), (.int .u64 x_.s), (.int .u64 x_.a), (.int .u64 x_.b), (.int .u64 x_.c), (.int .u64 x_.d), (.int .u64 x_.e), (.int .u64 x_.m)]) ∧ H' = []) := by
  refine spec_Q Try.func58 rfl fun hs => ?_
  refine W.seq fun K1 hK1 => ?_
  refine W.region ?_
  refine ops_new (fun b => .pointer (some ⟨b, 0, none⟩)) (.cells [(.int .u64 x_.k), (.int .u64 x_.l), (.int .u64 x_.o), (.int .u64 x_.s), (.int .u64 x_.a), (.int .u64 x_.b), (.int .u64 x_.c), (.int .u64 x_.d), (.int .u64 x_.e), (.int .u64 x_.m)].toArray 54 (0, 0)) hs (by kernel_rfl) (fun b4 w2 hs3 => ?_)
  refine ops_new (fun b => .pointer (some ⟨b, 0, none⟩)) (.cells [(.int .u64 0), (.int .u64 0), (.int .u64 0), (.int .u64 0), (.int .u64 0), (.int .u64 0), (.int .u64 0), (.int .u64 0), (.int .u64 0), (.int .u64 0)].toArray 103 (0, 0)) hs3 (by kernel_rfl) (fun b7 w5 hs6 => ?_)
  refine ops_done (by kernel_rfl) ?_
  refine hK1 _ _ ?_
  clear hK1
  refine W.seq fun K8 hK8 => ?_
  refine W.region ?_
  refine ops_run 1 (by kernel_rfl) ?_
  refine ops_R (runs_load (ad := ⟨b4, 0, none⟩) (v := (.int .u64 x_.k)) (by kernel_rfl) (hs6.cellAt 1 rfl rfl)) ?_
  refine ops_run 1 (by kernel_rfl) ?_
  refine ops_R (runs_load (ad := ⟨b4, 1, none⟩) (v := (.int .u64 x_.l)) (by kernel_rfl) (hs6.cellAt 1 rfl rfl)) ?_
  refine ops_run 1 (by kernel_rfl) ?_
  refine ops_R (runs_load (ad := ⟨b4, 2, none⟩) (v := (.int .u64 x_.o)) (by kernel_rfl) (hs6.cellAt 1 rfl rfl)) ?_
  refine ops_run 1 (by kernel_rfl) ?_
  refine ops_R (runs_load (ad := ⟨b4, 3, none⟩) (v := (.int .u64 x_.s)) (by kernel_rfl) (hs6.cellAt 1 rfl rfl)) ?_
  refine ops_run 1 (by kernel_rfl) ?_
  refine ops_R (runs_load (ad := ⟨b4, 8, none⟩) (v := (.int .u64 x_.e)) (by kernel_rfl) (hs6.cellAt 1 rfl rfl)) ?_
  refine ops_run 1 (by kernel_rfl) ?_
  refine ops_R (runs_load (ad := ⟨b4, 9, none⟩) (v := (.int .u64 x_.m)) (by kernel_rfl) (hs6.cellAt 1 rfl rfl)) ?_
  refine ops_run 1 (by kernel_rfl) ?_
  refine ops_new (fun b => .pointer (some ⟨b, 0, none⟩)) (.cells [(.int .u64 0), (.int .u64 0), (.int .u64 0), (.int .u64 0), (.int .u64 0), (.int .u64 0), (.int .u64 0), (.int .u64 0), (.int .u64 0), (.int .u64 0)].toArray 103 (0, 0)) hs6 (by kernel_rfl) (fun b11 w9 hs10 => ?_)
  refine ops_store (off := 0) (cs := [(.int .u64 0), (.int .u64 0), (.int .u64 0), (.int .u64 0), (.int .u64 0), (.int .u64 0), (.int .u64 0), (.int .u64 0), (.int .u64 0), (.int .u64 0)]) (vs := [(.int .u64 x_.k), (.int .u64 x_.l), (.int .u64 x_.o), (.int .u64 x_.s), (.int .u64 0), (.int .u64 0), (.int .u64 0), (.int .u64 0), (.int .u64 x_.e), (.int .u64 x_.m)]) hs10 (by kernel_rfl) (by simp) rfl (fun w12 hs13 => ?_)
  have hs14 : St B w [] w12 [blk b11 (.cells [(.int .u64 x_.k), (.int .u64 x_.l), (.int .u64 x_.o), (.int .u64 x_.s), (.int .u64 0), (.int .u64 0), (.int .u64 0), (.int .u64 0), (.int .u64 x_.e), (.int .u64 x_.m)].toArray 103 (0, 0)), blk b7 (.cells [(.int .u64 0), (.int .u64 0), (.int .u64 0), (.int .u64 0), (.int .u64 0), (.int .u64 0), (.int .u64 0), (.int .u64 0), (.int .u64 0), (.int .u64 0)].toArray 103 (0, 0)), blk b4 (.cells [(.int .u64 x_.k), (.int .u64 x_.l), (.int .u64 x_.o), (.int .u64 x_.s), (.int .u64 x_.a), (.int .u64 x_.b), (.int .u64 x_.c), (.int .u64 x_.d), (.int .u64 x_.e), (.int .u64 x_.m)].toArray 54 (0, 0))] := hs13
  refine ops_done (by kernel_rfl) ?_
  refine hK8 _ _ ?_
  clear hK8
  refine W.seq fun K15 hK15 => ?_
  have hs16 := hs14.drew
  have hs17 : St B w [] w12.drew [blk b4 (.cells [(.int .u64 x_.k), (.int .u64 x_.l), (.int .u64 x_.o), (.int .u64 x_.s), (.int .u64 x_.a), (.int .u64 x_.b), (.int .u64 x_.c), (.int .u64 x_.d), (.int .u64 x_.e), (.int .u64 x_.m)].toArray 54 (0, 0)), blk b11 (.cells [(.int .u64 x_.k), (.int .u64 x_.l), (.int .u64 x_.o), (.int .u64 x_.s), (.int .u64 0), (.int .u64 0), (.int .u64 0), (.int .u64 0), (.int .u64 x_.e), (.int .u64 x_.m)].toArray 103 (0, 0)), blk b7 (.cells [(.int .u64 0), (.int .u64 0), (.int .u64 0), (.int .u64 0), (.int .u64 0), (.int .u64 0), (.int .u64 0), (.int .u64 0), (.int .u64 0), (.int .u64 0)].toArray 103 (0, 0))] := hs16.front 2 (by simp)
  have hs18 : St B w [] w12.drew [blk b4 (.cells [(.int .u64 x_.k), (.int .u64 x_.l), (.int .u64 x_.o), (.int .u64 x_.s), (.int .u64 x_.a), (.int .u64 x_.b), (.int .u64 x_.c), (.int .u64 x_.d), (.int .u64 x_.e), (.int .u64 x_.m)].toArray 54 (0, 0))] := St.take (H := [blk b4 (.cells [(.int .u64 x_.k), (.int .u64 x_.l), (.int .u64 x_.o), (.int .u64 x_.s), (.int .u64 x_.a), (.int .u64 x_.b), (.int .u64 x_.c), (.int .u64 x_.d), (.int .u64 x_.e), (.int .u64 x_.m)].toArray 54 (0, 0))]) hs17
  refine W.regionD [(0, 0), (0, 0), (2, 2), (5, 5)] (fun w_ => St B w [] w_ [blk b4 (.cells [(.int .u64 x_.k), (.int .u64 x_.l), (.int .u64 x_.o), (.int .u64 x_.s), (.int .u64 x_.a), (.int .u64 x_.b), (.int .u64 x_.c), (.int .u64 x_.d), (.int .u64 x_.e), (.int .u64 x_.m)].toArray 54 (0, 0))]) (by kernel_rfl) hs18 ?_
  refine any_val (v := (.slice (some ⟨b11, 4, none⟩) 6 6)) (v' := (.slice (some ⟨b11, 4, none⟩) 6 6)) 0 (by kernel_rfl) (fun _ => by kernel_rfl) rfl hs18 ?_
  refine any_val (v := (.pointer (some ⟨b4, 4, none⟩))) (v' := (.pointer (some ⟨b4, 4, none⟩))) 1 (by kernel_rfl) (fun _ => by kernel_rfl) rfl hs18 ?_
  refine any_val (v := (.slice (some ⟨b4, 4, none⟩) 4 4)) (v' := (.slice (some ⟨b4, 4, none⟩) 4 4)) 2 (by kernel_rfl) (fun _ => by kernel_rfl) rfl hs18 ?_
  refine any_step 3 (by kernel_rfl) (by kernel_rfl) ?_
  refine ops_copy (off := 4) (size := 1) (c := 6) (c' := 4) (n := 6) (m := 4) (vs := [(.int .u64 x_.a), (.int .u64 x_.b), (.int .u64 x_.c), (.int .u64 x_.d)]) (cs := [(.int .u64 x_.k), (.int .u64 x_.l), (.int .u64 x_.o), (.int .u64 x_.s), (.int .u64 0), (.int .u64 0), (.int .u64 0), (.int .u64 0), (.int .u64 x_.e), (.int .u64 x_.m)]) hs16 (by kernel_rfl) (by decide) rfl (cells_sub (off := 4) (hs16.heapAt 2 rfl) rfl) (by simp) rfl (fun w19 hs20 => ?_)
  have hs21 : St B w [] w19 [blk b11 (.cells [(.int .u64 x_.k), (.int .u64 x_.l), (.int .u64 x_.o), (.int .u64 x_.s), (.int .u64 x_.a), (.int .u64 x_.b), (.int .u64 x_.c), (.int .u64 x_.d), (.int .u64 x_.e), (.int .u64 x_.m)].toArray 103 (0, 0)), blk b7 (.cells [(.int .u64 0), (.int .u64 0), (.int .u64 0), (.int .u64 0), (.int .u64 0), (.int .u64 0), (.int .u64 0), (.int .u64 0), (.int .u64 0), (.int .u64 0)].toArray 103 (0, 0)), blk b4 (.cells [(.int .u64 x_.k), (.int .u64 x_.l), (.int .u64 x_.o), (.int .u64 x_.s), (.int .u64 x_.a), (.int .u64 x_.b), (.int .u64 x_.c), (.int .u64 x_.d), (.int .u64 x_.e), (.int .u64 x_.m)].toArray 54 (0, 0))] := hs20
  have hs22 : St B w [] w19 [blk b4 (.cells [(.int .u64 x_.k), (.int .u64 x_.l), (.int .u64 x_.o), (.int .u64 x_.s), (.int .u64 x_.a), (.int .u64 x_.b), (.int .u64 x_.c), (.int .u64 x_.d), (.int .u64 x_.e), (.int .u64 x_.m)].toArray 54 (0, 0)), blk b11 (.cells [(.int .u64 x_.k), (.int .u64 x_.l), (.int .u64 x_.o), (.int .u64 x_.s), (.int .u64 x_.a), (.int .u64 x_.b), (.int .u64 x_.c), (.int .u64 x_.d), (.int .u64 x_.e), (.int .u64 x_.m)].toArray 103 (0, 0)), blk b7 (.cells [(.int .u64 0), (.int .u64 0), (.int .u64 0), (.int .u64 0), (.int .u64 0), (.int .u64 0), (.int .u64 0), (.int .u64 0), (.int .u64 0), (.int .u64 0)].toArray 103 (0, 0))] := hs21.front 2 (by simp)
  have hs23 : St B w [] w19 [blk b4 (.cells [(.int .u64 x_.k), (.int .u64 x_.l), (.int .u64 x_.o), (.int .u64 x_.s), (.int .u64 x_.a), (.int .u64 x_.b), (.int .u64 x_.c), (.int .u64 x_.d), (.int .u64 x_.e), (.int .u64 x_.m)].toArray 54 (0, 0))] := St.take (H := [blk b4 (.cells [(.int .u64 x_.k), (.int .u64 x_.l), (.int .u64 x_.o), (.int .u64 x_.s), (.int .u64 x_.a), (.int .u64 x_.b), (.int .u64 x_.c), (.int .u64 x_.d), (.int .u64 x_.e), (.int .u64 x_.m)].toArray 54 (0, 0))]) hs22
  refine ops_done (by kernel_rfl) ⟨hs23, ?_⟩
  refine any_done (by kernel_rfl) ?_
  refine hK15 _ _ ?_
  clear hK15
  refine W.seq fun K24 hK24 => ?_
  refine W.region ?_
  refine ops_R (runs_loadAgg (ad := ⟨b11, 0, none⟩) (cs := [(.int .u64 x_.k), (.int .u64 x_.l), (.int .u64 x_.o), (.int .u64 x_.s), (.int .u64 x_.a), (.int .u64 x_.b), (.int .u64 x_.c), (.int .u64 x_.d), (.int .u64 x_.e), (.int .u64 x_.m)]) (by kernel_rfl) (cells_sub (hs21.heapAt 0 rfl) rfl)) ?_
  have hs27 : St B w [] w19 [blk b7 (.cells [(.int .u64 0), (.int .u64 0), (.int .u64 0), (.int .u64 0), (.int .u64 0), (.int .u64 0), (.int .u64 0), (.int .u64 0), (.int .u64 0), (.int .u64 0)].toArray 103 (0, 0)), blk b11 (.cells [(.int .u64 x_.k), (.int .u64 x_.l), (.int .u64 x_.o), (.int .u64 x_.s), (.int .u64 x_.a), (.int .u64 x_.b), (.int .u64 x_.c), (.int .u64 x_.d), (.int .u64 x_.e), (.int .u64 x_.m)].toArray 103 (0, 0)), blk b4 (.cells [(.int .u64 x_.k), (.int .u64 x_.l), (.int .u64 x_.o), (.int .u64 x_.s), (.int .u64 x_.a), (.int .u64 x_.b), (.int .u64 x_.c), (.int .u64 x_.d), (.int .u64 x_.e), (.int .u64 x_.m)].toArray 54 (0, 0))] := hs21.front 1 (by simp)
  refine ops_store (off := 0) (cs := [(.int .u64 0), (.int .u64 0), (.int .u64 0), (.int .u64 0), (.int .u64 0), (.int .u64 0), (.int .u64 0), (.int .u64 0), (.int .u64 0), (.int .u64 0)]) (vs := [(.int .u64 x_.k), (.int .u64 x_.l), (.int .u64 x_.o), (.int .u64 x_.s), (.int .u64 x_.a), (.int .u64 x_.b), (.int .u64 x_.c), (.int .u64 x_.d), (.int .u64 x_.e), (.int .u64 x_.m)]) hs27 (by kernel_rfl) (by simp) rfl (fun w25 hs26 => ?_)
  have hs28 : St B w [] w25 [blk b7 (.cells [(.int .u64 x_.k), (.int .u64 x_.l), (.int .u64 x_.o), (.int .u64 x_.s), (.int .u64 x_.a), (.int .u64 x_.b), (.int .u64 x_.c), (.int .u64 x_.d), (.int .u64 x_.e), (.int .u64 x_.m)].toArray 103 (0, 0)), blk b11 (.cells [(.int .u64 x_.k), (.int .u64 x_.l), (.int .u64 x_.o), (.int .u64 x_.s), (.int .u64 x_.a), (.int .u64 x_.b), (.int .u64 x_.c), (.int .u64 x_.d), (.int .u64 x_.e), (.int .u64 x_.m)].toArray 103 (0, 0)), blk b4 (.cells [(.int .u64 x_.k), (.int .u64 x_.l), (.int .u64 x_.o), (.int .u64 x_.s), (.int .u64 x_.a), (.int .u64 x_.b), (.int .u64 x_.c), (.int .u64 x_.d), (.int .u64 x_.e), (.int .u64 x_.m)].toArray 54 (0, 0))] := hs26
  refine ops_done (by kernel_rfl) ?_
  refine hK24 _ _ ?_
  clear hK24
  refine W.ret ?_
  have hs29 : St B w [] w25 [] := St.take (H := []) hs28
  refine ret_of (.agg #[(.int .u64 x_.k), (.int .u64 x_.l), (.int .u64 x_.o), (.int .u64 x_.s), (.int .u64 x_.a), (.int .u64 x_.b), (.int .u64 x_.c), (.int .u64 x_.d), (.int .u64 x_.e), (.int .u64 x_.m)]) (results_cell (ad := ⟨b7, 0, none⟩) (cs := [(.int .u64 x_.k), (.int .u64 x_.l), (.int .u64 x_.o), (.int .u64 x_.s), (.int .u64 x_.a), (.int .u64 x_.b), (.int .u64 x_.c), (.int .u64 x_.d), (.int .u64 x_.e), (.int .u64 x_.m)]) rfl (by kernel_rfl) (by kernel_rfl) (cells_sub (hs28.heapAt 0 rfl) rfl)) ⟨_, ⟨rfl, rfl⟩, hs29⟩

set_option maxRecDepth 20000 in
theorem inode_spec {x_ : Nd} (B : Nat) (w : World) : Spec Try.prog 59 #[(.agg #[(.int .u64 x_.k), (.int .u64 x_.l), (.int .u64 x_.o), (.int .u64 x_.s), (.int .u64 x_.a), (.int .u64 x_.b), (.int .u64 x_.c), (.int .u64 x_.d), (.int .u64 x_.e), (.int .u64 x_.m)])] B w [] (fun v H' => v = (.agg #[(.int .u64 x_.k), (.int .u64 x_.l), (.int .u64 x_.o), (.int .u64 x_.s), (.int .u64 x_.a), (.int .u64 x_.b), (.int .u64 x_.c), (.int .u64 x_.d), (.int .u64 x_.e), (.int .u64 x_.m)]) ∧ H' = []) := by
  refine spec_Q Try.func59 rfl fun hs => ?_
  refine W.seq fun K1 hK1 => ?_
  refine W.region ?_
  refine ops_new (fun b => .pointer (some ⟨b, 0, none⟩)) (.cells [(.int .u64 x_.k), (.int .u64 x_.l), (.int .u64 x_.o), (.int .u64 x_.s), (.int .u64 x_.a), (.int .u64 x_.b), (.int .u64 x_.c), (.int .u64 x_.d), (.int .u64 x_.e), (.int .u64 x_.m)].toArray 103 (0, 0)) hs (by kernel_rfl) (fun b4 w2 hs3 => ?_)
  refine ops_new (fun b => .pointer (some ⟨b, 0, none⟩)) (.cells [(.int .u64 0), (.int .u64 0), (.int .u64 0), (.int .u64 0), (.int .u64 0), (.int .u64 0), (.int .u64 0), (.int .u64 0), (.int .u64 0), (.int .u64 0)].toArray 54 (0, 0)) hs3 (by kernel_rfl) (fun b7 w5 hs6 => ?_)
  refine ops_done (by kernel_rfl) ?_
  refine hK1 _ _ ?_
  clear hK1
  refine W.seq fun K8 hK8 => ?_
  have hs9 := hs6.drew
  have hs10 : St B w [] w5.drew [blk b4 (.cells [(.int .u64 x_.k), (.int .u64 x_.l), (.int .u64 x_.o), (.int .u64 x_.s), (.int .u64 x_.a), (.int .u64 x_.b), (.int .u64 x_.c), (.int .u64 x_.d), (.int .u64 x_.e), (.int .u64 x_.m)].toArray 103 (0, 0)), blk b7 (.cells [(.int .u64 0), (.int .u64 0), (.int .u64 0), (.int .u64 0), (.int .u64 0), (.int .u64 0), (.int .u64 0), (.int .u64 0), (.int .u64 0), (.int .u64 0)].toArray 54 (0, 0))] := hs9.front 1 (by simp)
  have hs11 : St B w [] w5.drew [blk b4 (.cells [(.int .u64 x_.k), (.int .u64 x_.l), (.int .u64 x_.o), (.int .u64 x_.s), (.int .u64 x_.a), (.int .u64 x_.b), (.int .u64 x_.c), (.int .u64 x_.d), (.int .u64 x_.e), (.int .u64 x_.m)].toArray 103 (0, 0))] := St.take (H := [blk b4 (.cells [(.int .u64 x_.k), (.int .u64 x_.l), (.int .u64 x_.o), (.int .u64 x_.s), (.int .u64 x_.a), (.int .u64 x_.b), (.int .u64 x_.c), (.int .u64 x_.d), (.int .u64 x_.e), (.int .u64 x_.m)].toArray 103 (0, 0))]) hs10
  refine W.regionD [(0, 0), (1, 1), (0, 0), (4, 4), (0, 0), (16, 16), (0, 0), (64, 64), (0, 0), (256, 256), (512, 512), (0, 0), (2048, 2048), (0, 0), (8192, 8192), (21674, 21674), (65535, 32768)] (fun w_ => St B w [] w_ [blk b4 (.cells [(.int .u64 x_.k), (.int .u64 x_.l), (.int .u64 x_.o), (.int .u64 x_.s), (.int .u64 x_.a), (.int .u64 x_.b), (.int .u64 x_.c), (.int .u64 x_.d), (.int .u64 x_.e), (.int .u64 x_.m)].toArray 103 (0, 0))]) (by kernel_rfl) hs11 ?_
  refine any_val (v := (.pointer (some ⟨b4, 0, none⟩))) (v' := (.pointer (some ⟨b4, 0, none⟩))) 0 (by kernel_rfl) (fun _ => by kernel_rfl) rfl hs11 ?_
  refine any_R 1 (by kernel_rfl) (fun _ hS_ => runs_load (ad := ⟨b4, 0, none⟩) (v := (.int .u64 x_.k)) (by kernel_rfl) (hS_.cellAt 0 rfl rfl)) hs11 ?_
  refine any_val (v := (.pointer (some ⟨b4, 1, none⟩))) (v' := (.pointer (some ⟨b4, 1, none⟩))) 2 (by kernel_rfl) (fun _ => by kernel_rfl) rfl hs11 ?_
  refine any_R 3 (by kernel_rfl) (fun _ hS_ => runs_load (ad := ⟨b4, 1, none⟩) (v := (.int .u64 x_.l)) (by kernel_rfl) (hS_.cellAt 0 rfl rfl)) hs11 ?_
  refine any_val (v := (.pointer (some ⟨b4, 2, none⟩))) (v' := (.pointer (some ⟨b4, 2, none⟩))) 4 (by kernel_rfl) (fun _ => by kernel_rfl) rfl hs11 ?_
  refine any_R 5 (by kernel_rfl) (fun _ hS_ => runs_load (ad := ⟨b4, 2, none⟩) (v := (.int .u64 x_.o)) (by kernel_rfl) (hS_.cellAt 0 rfl rfl)) hs11 ?_
  refine any_val (v := (.pointer (some ⟨b4, 3, none⟩))) (v' := (.pointer (some ⟨b4, 3, none⟩))) 6 (by kernel_rfl) (fun _ => by kernel_rfl) rfl hs11 ?_
  refine any_R 7 (by kernel_rfl) (fun _ hS_ => runs_load (ad := ⟨b4, 3, none⟩) (v := (.int .u64 x_.s)) (by kernel_rfl) (hS_.cellAt 0 rfl rfl)) hs11 ?_
  refine any_val (v := (.slice (some ⟨b4, 4, none⟩) 4 6)) (v' := (.slice (some ⟨b4, 4, none⟩) 4 6)) 8 (by kernel_rfl) (fun _ => by kernel_rfl) rfl hs11 ?_
  refine any_val (v := (.pointer (some ⟨b4, 4, none⟩))) (v' := (.pointer (some ⟨b4, 4, none⟩))) 9 (by kernel_rfl) (fun _ => by kernel_rfl) rfl hs11 ?_
  refine any_R 10 (by kernel_rfl) (fun _ hS_ => runs_loadAgg (ad := ⟨b4, 4, none⟩) (cs := [(.int .u64 x_.a), (.int .u64 x_.b), (.int .u64 x_.c), (.int .u64 x_.d)]) (by kernel_rfl) (cells_sub (hS_.heapAt 0 rfl) rfl)) hs11 ?_
  refine any_val (v := (.pointer (some ⟨b4, 8, none⟩))) (v' := (.pointer (some ⟨b4, 8, none⟩))) 11 (by kernel_rfl) (fun _ => by kernel_rfl) rfl hs11 ?_
  refine any_R 12 (by kernel_rfl) (fun _ hS_ => runs_load (ad := ⟨b4, 8, none⟩) (v := (.int .u64 x_.e)) (by kernel_rfl) (hS_.cellAt 0 rfl rfl)) hs11 ?_
  refine any_val (v := (.pointer (some ⟨b4, 9, none⟩))) (v' := (.pointer (some ⟨b4, 9, none⟩))) 13 (by kernel_rfl) (fun _ => by kernel_rfl) rfl hs11 ?_
  refine any_R 14 (by kernel_rfl) (fun _ hS_ => runs_load (ad := ⟨b4, 9, none⟩) (v := (.int .u64 x_.m)) (by kernel_rfl) (hS_.cellAt 0 rfl rfl)) hs11 ?_
  refine any_val (v := (.agg #[(.int .u64 x_.k), (.int .u64 x_.l), (.int .u64 x_.o), (.int .u64 x_.s), (.int .u64 x_.a), (.int .u64 x_.b), (.int .u64 x_.c), (.int .u64 x_.d), (.int .u64 x_.e), (.int .u64 x_.m)])) (v' := (.agg #[(.int .u64 x_.k), (.int .u64 x_.l), (.int .u64 x_.o), (.int .u64 x_.s), (.int .u64 x_.a), (.int .u64 x_.b), (.int .u64 x_.c), (.int .u64 x_.d), (.int .u64 x_.e), (.int .u64 x_.m)])) 15 (by kernel_rfl) (fun _ => by kernel_rfl) rfl hs11 ?_
  refine any_step 16 (by kernel_rfl) (by kernel_rfl) ?_
  refine ops_store (off := 0) (cs := [(.int .u64 0), (.int .u64 0), (.int .u64 0), (.int .u64 0), (.int .u64 0), (.int .u64 0), (.int .u64 0), (.int .u64 0), (.int .u64 0), (.int .u64 0)]) (vs := [(.int .u64 x_.k), (.int .u64 x_.l), (.int .u64 x_.o), (.int .u64 x_.s), (.int .u64 x_.a), (.int .u64 x_.b), (.int .u64 x_.c), (.int .u64 x_.d), (.int .u64 x_.e), (.int .u64 x_.m)]) hs9 (by kernel_rfl) (by simp) rfl (fun w12 hs13 => ?_)
  have hs14 : St B w [] w12 [blk b7 (.cells [(.int .u64 x_.k), (.int .u64 x_.l), (.int .u64 x_.o), (.int .u64 x_.s), (.int .u64 x_.a), (.int .u64 x_.b), (.int .u64 x_.c), (.int .u64 x_.d), (.int .u64 x_.e), (.int .u64 x_.m)].toArray 54 (0, 0)), blk b4 (.cells [(.int .u64 x_.k), (.int .u64 x_.l), (.int .u64 x_.o), (.int .u64 x_.s), (.int .u64 x_.a), (.int .u64 x_.b), (.int .u64 x_.c), (.int .u64 x_.d), (.int .u64 x_.e), (.int .u64 x_.m)].toArray 103 (0, 0))] := hs13
  have hs15 : St B w [] w12 [blk b4 (.cells [(.int .u64 x_.k), (.int .u64 x_.l), (.int .u64 x_.o), (.int .u64 x_.s), (.int .u64 x_.a), (.int .u64 x_.b), (.int .u64 x_.c), (.int .u64 x_.d), (.int .u64 x_.e), (.int .u64 x_.m)].toArray 103 (0, 0)), blk b7 (.cells [(.int .u64 x_.k), (.int .u64 x_.l), (.int .u64 x_.o), (.int .u64 x_.s), (.int .u64 x_.a), (.int .u64 x_.b), (.int .u64 x_.c), (.int .u64 x_.d), (.int .u64 x_.e), (.int .u64 x_.m)].toArray 54 (0, 0))] := hs14.front 1 (by simp)
  have hs16 : St B w [] w12 [blk b4 (.cells [(.int .u64 x_.k), (.int .u64 x_.l), (.int .u64 x_.o), (.int .u64 x_.s), (.int .u64 x_.a), (.int .u64 x_.b), (.int .u64 x_.c), (.int .u64 x_.d), (.int .u64 x_.e), (.int .u64 x_.m)].toArray 103 (0, 0))] := St.take (H := [blk b4 (.cells [(.int .u64 x_.k), (.int .u64 x_.l), (.int .u64 x_.o), (.int .u64 x_.s), (.int .u64 x_.a), (.int .u64 x_.b), (.int .u64 x_.c), (.int .u64 x_.d), (.int .u64 x_.e), (.int .u64 x_.m)].toArray 103 (0, 0))]) hs15
  refine ops_done (by kernel_rfl) ⟨hs16, ?_⟩
  refine any_done (by kernel_rfl) ?_
  refine hK8 _ _ ?_
  clear hK8
  refine W.ret ?_
  have hs17 : St B w [] w12 [] := St.take (H := []) hs14
  refine ret_of (.agg #[(.int .u64 x_.k), (.int .u64 x_.l), (.int .u64 x_.o), (.int .u64 x_.s), (.int .u64 x_.a), (.int .u64 x_.b), (.int .u64 x_.c), (.int .u64 x_.d), (.int .u64 x_.e), (.int .u64 x_.m)]) (results_cell (ad := ⟨b7, 0, none⟩) (cs := [(.int .u64 x_.k), (.int .u64 x_.l), (.int .u64 x_.o), (.int .u64 x_.s), (.int .u64 x_.a), (.int .u64 x_.b), (.int .u64 x_.c), (.int .u64 x_.d), (.int .u64 x_.e), (.int .u64 x_.m)]) rfl (by kernel_rfl) (by kernel_rfl) (cells_sub (hs14.heapAt 0 rfl) rfl)) ⟨_, ⟨rfl, rfl⟩, hs17⟩

end Go.Proofs.Ythimamnblklkbaa
