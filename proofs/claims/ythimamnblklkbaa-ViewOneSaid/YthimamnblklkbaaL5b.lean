/- The walk of a law of layer 5, by a program. -/
import Derived.Test.YthimamnblklkbaaLv
namespace Go.Proofs.Ythimamnblklkbaa
open Go Go.RowKit

set_option maxRecDepth 20000 in
set_option maxHeartbeats 4000000 in
set_option linter.unusedVariables false in
theorem viewone_walk {wa sa : Option Addr} {wc sc : Nat} {ws : List Int} {ss : List (Int × Int × Int)} {at_ x_ : Int} (B : Nat) (w : World) (hB : w.heap.size = B) (hw : CellsAt wa (kU64.cells ws) w) (hn : wa = none → wc = 0) (hst : CellsAt sa (kStep5.cells ss) w) : Spec Try.prog 5 #[(.slice wa ws.length wc), (.slice sa ss.length sc), (.int .i64 at_), (.int .u64 x_)] B w [] (fun v H' => v = .bool true ∧ H' = []) := by
  refine spec_Q Try.func5 rfl fun hs => ?_
  refine W.seq fun K1 hK1 => ?_
  refine W.region ?_
  refine ops_run 1 (by kernel_rfl) ?_
  refine ops_done (by kernel_rfl) ?_
  refine hK1 _ _ ?_
  refine W.seq fun K2 hK2 => ?_
  refine W.seq fun K3 hK3 => ?_
  refine W.region ?_
  refine ops_run 4 (by kernel_rfl) ?_
  rcases Bool.eq_false_or_eq_true (decide ((ws.length : Int) > 300)) with h4 | h4
  ·
    have h4p : (ws.length : Int) > 300 := of_decide_eq_true h4
    refine ops_set 20 (v := .bool true) (eq_bool_of (by kernel_rfl) h4) ?_
    refine ops_set 19 (v := .bool true) (eq_bool_of (by kernel_rfl) h4) ?_
    refine ops_run 4 (by kernel_rfl) ?_
    refine ops_done (by kernel_rfl) ?_
    refine hK3 _ _ ?_
    refine W.cond_true true (by kernel_rfl) rfl ?_
    refine W.seq fun K5 hK5 => ?_
    refine W.region ?_
    refine ops_call (pre := []) hs (by kernel_rfl) (works5_spec B _) ?_
    rintro _ _ w6 ⟨rfl, rfl⟩ hs7
    have hs8 : St B w [] w6 [] := hs7
    refine ops_run 1 (by kernel_rfl) ?_
    refine ops_done (by kernel_rfl) ?_
    refine hK5 _ _ ?_
    refine W.ret (ret_seq ?_)
    refine ret_of (.bool true) (by kernel_rfl) ⟨_, ⟨rfl, rfl⟩, hs8⟩
  ·
    have h4p : ¬ ((ws.length : Int) > 300) := of_decide_eq_false h4
    refine ops_set 20 (v := .bool false) (eq_bool_of (by kernel_rfl) h4) ?_
    refine ops_set 19 (v := .bool false) (eq_bool_of (by kernel_rfl) h4) ?_
    refine ops_run 4 (by kernel_rfl) ?_
    refine ops_done (by kernel_rfl) ?_
    refine hK3 _ _ ?_
    refine W.cond (decide ((ss.length : Int) > 60)) (by kernel_rfl) (fun h9 => ?_) (fun h9 => ?_)
    ·
      have h9p : (ss.length : Int) > 60 := of_decide_eq_true h9
      refine W.seq fun K10 hK10 => ?_
      refine W.region ?_
      refine ops_call (pre := []) hs (by kernel_rfl) (works5_spec B _) ?_
      rintro _ _ w11 ⟨rfl, rfl⟩ hs12
      have hs13 : St B w [] w11 [] := hs12
      refine ops_run 1 (by kernel_rfl) ?_
      refine ops_done (by kernel_rfl) ?_
      refine hK10 _ _ ?_
      refine W.ret (ret_seq ?_)
      refine ret_of (.bool true) (by kernel_rfl) ⟨_, ⟨rfl, rfl⟩, hs13⟩
    ·
      have h9p : ¬ ((ss.length : Int) > 60) := of_decide_eq_false h9
      refine W.skip ?_
      refine hK2 _ _ ?_
      refine W.seq fun K14 hK14 => ?_
      refine W.region ?_
      refine ops_run 1 (by kernel_rfl) ?_
      refine ops_call (pre := []) hs (by kernel_rfl) (new_spec (hc := (hs.oldCells hw)) (hn := hn) (hsz := (by omega)) B _) ?_
      rintro _ _ w16 ⟨b15, rfl, rfl⟩ hs17
      have hs18 : St B w [] w16 [viewA (ptr b15) ws ([])] := hs17
      refine ops_run 1 (by kernel_rfl) ?_
      refine ops_done (by kernel_rfl) ?_
      refine hK14 _ _ ?_
      refine W.seq fun K19 hK19 => ?_
      refine W.region ?_
      refine ops_run 1 (by kernel_rfl) ?_
      refine ops_call (pre := []) hs18 (by kernel_rfl) (new_spec (hc := (hs18.oldCells hw)) (hn := hn) (hsz := (by omega)) B _) ?_
      rintro _ _ w21 ⟨b20, rfl, rfl⟩ hs22
      have hs23 : St B w [] w21 [viewA (ptr b20) ws ([]), viewA (ptr b15) ws ([])] := hs22
      refine ops_run 1 (by kernel_rfl) ?_
      refine ops_done (by kernel_rfl) ?_
      refine hK19 _ _ ?_
      refine W.seq fun K24 hK24 => ?_
      refine W.seq fun K25 hK25 => ?_
      refine W.region ?_
      refine ops_run 6 (by kernel_rfl) ?_
      refine ops_done (by kernel_rfl) ?_
      refine hK25 _ _ ?_
      refine W.cond_false false (by kernel_rfl) rfl ?_
      refine W.skip ?_
      refine hK24 _ _ ?_
      refine W.seq fun K26 hK26 => ?_
      refine W.seq fun K27 hK27 => ?_
      refine W.region ?_
      refine ops_run 1 (by kernel_rfl) ?_
      refine ops_done (by kernel_rfl) ?_
      refine hK27 _ _ ?_
      refine W.block ?_
      have hs30 : St B w [] w21 [viewA (ptr b15) ws ([]), viewA (ptr b20) ws ([])] := hs23.front 1 (by simp)
      refine W.loop (G := Nat × List (Int × Int)) (fun | (k, l), s_, w_ => (∃ us, s_ = slots 131 [(0, (.slice wa ws.length wc)), (1, (.slice sa ss.length sc)), (2, (.int .i64 at_)), (3, (.int .u64 x_)), (9, (.pointer (some ⟨b15, 0, none⟩))), (10, (.pointer (some ⟨b20, 0, none⟩))), (11, (.int .i64 (k : Int)))] us) ∧ St B w [] w_ [viewA (ptr b15) ws l, viewA (ptr b20) ws ([])] ∧ (k ≤ ss.length) ∧ (l.length ≤ k)) (fun | (k, l) => ss.length - k) (0, []) ⟨slots_intro _ (by kernel_rfl), hs30, Nat.zero_le _, Nat.zero_le _⟩ ?_
      rintro ⟨k, l⟩ _ w28 ⟨⟨us, rfl⟩, hs29, hk_, hl_⟩
      refine W.seq fun K31 hK31 => ?_
      refine W.seq fun K32 hK32 => ?_
      refine W.region ?_
      refine ops_run 4 (by kernel_rfl) ?_
      refine ops_done (by kernel_rfl) ?_
      refine hK32 _ _ ?_
      refine W.cond (decide ((k : Int) < (ss.length : Int))) (by kernel_rfl) (fun h33 => ?_) (fun h33 => ?_)
      ·
        have h33p : (k : Int) < (ss.length : Int) := of_decide_eq_true h33
        refine W.skip ?_
        refine hK31 _ _ ?_
        refine W.seq fun K34 hK34 => ?_
        refine W.block ?_
        have hs35 := hs29.drew
        have hs36 : St B w [] w28.drew [] := St.take (H := []) hs35
        refine W.regionD (fun w_ => St B w [] w_ []) (by kernel_rfl) hs36 ?_
        refine any_take 0 (by kernel_rfl) (fun _ => by kernel_rfl) hs36 ?_
        refine any_take 1 (by kernel_rfl) (fun _ => by kernel_rfl) hs36 ?_
        refine any_take 2 (by kernel_rfl) (fun _ => by kernel_rfl) hs36 ?_
        have hk37 : k < ss.length := by omega
        refine any_R 3 (by kernel_rfl) (fun _ hS_ => runs_index (a := sa) (n := ss.length) (z := (k : Int)) (size := 3) k rfl hk37 (kStep5.addr (hs35.oldCells hst) hk37) (by kernel_rfl)) hs36 ?_
        refine any_take 4 (by kernel_rfl) (fun _ => by kernel_rfl) hs36 ?_
        refine any_R 5 (by kernel_rfl) (fun _ hS_ => runs_load (ad := ((adr sa (k * 3)).add 1)) (v := (.int .i64 ((ss.getD k (0, 0, 0)).2.1))) (by kernel_rfl) (kStep5.at (hS_.oldCells hst) hk37 (0, 0, 0) 1 rfl)) hs36 ?_
        refine any_take 6 (by kernel_rfl) (fun _ => by kernel_rfl) hs36 ?_
        refine any_take 7 (by kernel_rfl) (fun _ => by kernel_rfl) hs36 ?_
        have hk38 : k < ss.length := by omega
        refine any_R 8 (by kernel_rfl) (fun _ hS_ => runs_index (a := sa) (n := ss.length) (z := (k : Int)) (size := 3) k rfl hk38 (kStep5.addr (hs35.oldCells hst) hk38) (by kernel_rfl)) hs36 ?_
        refine any_take 9 (by kernel_rfl) (fun _ => by kernel_rfl) hs36 ?_
        refine any_R 10 (by kernel_rfl) (fun _ hS_ => runs_load (ad := ((adr sa (k * 3)).add 2)) (v := (.int .u64 ((ss.getD k (0, 0, 0)).2.2))) (by kernel_rfl) (kStep5.at (hS_.oldCells hst) hk38 (0, 0, 0) 2 rfl)) hs36 ?_
        refine any_step 11 (by kernel_rfl) (by kernel_rfl) ?_
        refine ops_call (pre := [viewA (ptr b15) ws l]) hs35 (by kernel_rfl) (put_spec (p := (.pointer (some ⟨b15, 0, none⟩))) (img := ws) (l := l) (at_ := (ss.getD k (0, 0, 0)).2.1) (x_ := (ss.getD k (0, 0, 0)).2.2) B _) ?_
        rintro _ _ w39 ⟨rfl, rfl⟩ hs40
        have hs41 : St B w [] w39 [viewA (ptr b15) ws ((vput ws l ((ss.getD k (0, 0, 0)).2.1) ((ss.getD k (0, 0, 0)).2.2)).2), viewA (ptr b20) ws ([])] := hs40
        have hs42 : St B w [] w39 [] := St.take (H := []) hs41
        refine ops_done (by kernel_rfl) ⟨hs42, ?_⟩
        refine any_done (by kernel_rfl) ?_
        refine normal_block ?_
        refine hK34 _ _ ?_
        refine W.region ?_
        refine ops_run 1 (by kernel_rfl) ?_
        refine ops_val (v := .int .i64 (IntKind.i64.wrap ((k : Int) + 1))) (v' := .int .i64 ((k + 1 : Nat) : Int)) (by kernel_rfl) (congrArg (Value.int .i64) (wrap_i64 (by omega) (by omega))) ?_
        refine ops_run 1 (by kernel_rfl) ?_
        refine ops_done (by kernel_rfl) ?_
        have hln := vput_len ws l (ss.getD k (0, 0, 0)).2.1 (ss.getD k (0, 0, 0)).2.2
        exact ⟨(k + 1, (vput ws l ((ss.getD k (0, 0, 0)).2.1) ((ss.getD k (0, 0, 0)).2.2)).2), ⟨slots_intro _ (by kernel_rfl), hs41, by omega, by omega⟩, by first | omega | (dsimp only; omega)⟩
      ·
        have h33p : ¬ ((k : Int) < (ss.length : Int)) := of_decide_eq_false h33
        refine W.exit (exit_seq (exit_seq (exit_here ?_)))
        refine hK26 _ _ ?_
        refine W.seq fun K43 hK43 => ?_
        refine W.region ?_
        refine ops_run 1 (by kernel_rfl) ?_
        refine ops_call (pre := []) hs29 (by kernel_rfl) (flat_spec (hv := (hs29.entAt 0 rfl viewA_at)) B _) ?_
        rintro _ _ w46 ⟨a44, c45, rfl, rfl⟩ hs47
        have hs48 : St B w [] w46 [kU64.row a44 c45 (vflat ws l), viewA (ptr b15) ws l, viewA (ptr b20) ws ([])] := hs47
        refine ops_run 1 (by kernel_rfl) ?_
        refine ops_done (by kernel_rfl) ?_
        refine hK43 _ _ ?_
        refine W.seq fun K49 hK49 => ?_
        have hin : 0 ≤ at_ ∧ at_ < (ws.length : Int) → vput ws l at_ x_ = (0, vset l at_ x_) := fun h => vput_in h (by omega)
        have hout := fun h => vput_out (img := ws) (l := l) (a := at_) (x := x_) h
        have hok0 := hs48.entAt 1 rfl viewA_ok
        refine W.region ?_
        refine ops_run 3 (by kernel_rfl) ?_
        have hs50 : St B w [] w46 [viewA (ptr b15) ws l, kU64.row a44 c45 (vflat ws l), viewA (ptr b20) ws ([])] := hs48.front 1 (by simp)
        refine ops_call (pre := [viewA (ptr b15) ws l]) hs50 (by kernel_rfl) (put_spec (p := (.pointer (some ⟨b15, 0, none⟩))) (img := ws) (l := l) (at_ := at_) (x_ := x_) B _) ?_
        rintro _ _ w51 ⟨rfl, rfl⟩ hs52
        have hs53 : St B w [] w51 [viewA (ptr b15) ws ((vput ws l at_ x_).2), kU64.row a44 c45 (vflat ws l), viewA (ptr b20) ws ([])] := hs52
        refine ops_run 1 (by kernel_rfl) ?_
        refine ops_done (by kernel_rfl) ?_
        refine hK49 _ _ ?_
        refine W.seq fun K54 hK54 => ?_
        refine W.region ?_
        refine ops_run 1 (by kernel_rfl) ?_
        refine ops_call (pre := []) hs53 (by kernel_rfl) (flat_spec (hv := (hs53.entAt 0 rfl viewA_at)) B _) ?_
        rintro _ _ w57 ⟨a55, c56, rfl, rfl⟩ hs58
        have hs59 : St B w [] w57 [kU64.row a55 c56 (vflat ws ((vput ws l at_ x_).2)), viewA (ptr b15) ws ((vput ws l at_ x_).2), kU64.row a44 c45 (vflat ws l), viewA (ptr b20) ws ([])] := hs58
        refine ops_run 1 (by kernel_rfl) ?_
        refine ops_done (by kernel_rfl) ?_
        refine hK54 _ _ ?_
        refine W.seq fun K60 hK60 => ?_
        refine W.seq fun K61 hK61 => ?_
        refine W.region ?_
        refine ops_run 6 (by kernel_rfl) ?_
        rcases Bool.eq_false_or_eq_true (!decide ((((vflat ws l).length) : Int) = (ws.length : Int))) with h62 | h62
        ·
          have h62p : ¬ ((((vflat ws l).length) : Int) = (ws.length : Int)) := of_decide_eq_false (bnot_true h62)
          refine ops_set 67 (v := .bool true) (eq_bool_of (by kernel_rfl) h62) ?_
          refine ops_set 66 (v := .bool true) (eq_bool_of (by kernel_rfl) h62) ?_
          refine ops_run 19 (by kernel_rfl) ?_
          refine ops_done (by kernel_rfl) ?_
          refine hK61 _ _ ?_
          refine W.cond_true true (by kernel_rfl) rfl ?_
          refine W.seq fun K63 hK63 => ?_
          refine W.region ?_
          refine ops_run 1 (by kernel_rfl) ?_
          refine ops_done (by kernel_rfl) ?_
          refine hK63 _ _ ?_
          refine W.ret (ret_seq ?_)
          have hs64 : St B w [] w57 [] := St.take (H := []) hs59
          exfalso
          first | contradiction | (have e0 := hf0 k2 (by omega); have e1 := hf1 k2 (by omega); have e2 := hge k2; have e3 := vget_nil (img := ws) (k := k2) (by omega); split at e2 <;> omega) | (by_cases hq : 0 ≤ at_ ∧ at_ < (ws.length : Int) <;> first | (have e0 : (vput ws l at_ x_).1 = 0 := congrArg Prod.fst (hin hq); omega) | (have e0 : (vput ws l at_ x_).1 = 8 := congrArg Prod.fst (hout hq); omega) | (have e0 : (vput ws l at_ x_).1 = 8 := congrArg Prod.fst (hout (by omega)); exact ‹¬ (((vput ws l at_ x_).1 = 0) ↔ False)› (Iff.intro (fun h => by omega) False.elim))) | (simp only [vflat_length] at *; contradiction)
        ·
          have h62p : (((vflat ws l).length) : Int) = (ws.length : Int) := of_decide_eq_true (bnot_false h62)
          refine ops_set 67 (v := .bool false) (eq_bool_of (by kernel_rfl) h62) ?_
          refine ops_set 66 (v := .bool false) (eq_bool_of (by kernel_rfl) h62) ?_
          refine ops_run 7 (by kernel_rfl) ?_
          rcases Bool.eq_false_or_eq_true (!decide ((((vflat ws ((vput ws l at_ x_).2)).length) : Int) = (ws.length : Int))) with h65 | h65
          ·
            have h65p : ¬ ((((vflat ws ((vput ws l at_ x_).2)).length) : Int) = (ws.length : Int)) := of_decide_eq_false (bnot_true h65)
            refine ops_set 74 (v := .bool true) (eq_bool_of (by kernel_rfl) h65) ?_
            refine ops_set 72 (v := .bool true) (eq_bool_of (by kernel_rfl) h65) ?_
            refine ops_set 73 (v := .bool true) (eq_bool_of (by kernel_rfl) h65) ?_
            refine ops_run 12 (by kernel_rfl) ?_
            refine ops_done (by kernel_rfl) ?_
            refine hK61 _ _ ?_
            refine W.cond_true true (by kernel_rfl) rfl ?_
            refine W.seq fun K66 hK66 => ?_
            refine W.region ?_
            refine ops_run 1 (by kernel_rfl) ?_
            refine ops_done (by kernel_rfl) ?_
            refine hK66 _ _ ?_
            refine W.ret (ret_seq ?_)
            have hs67 : St B w [] w57 [] := St.take (H := []) hs59
            exfalso
            first | contradiction | (have e0 := hf0 k2 (by omega); have e1 := hf1 k2 (by omega); have e2 := hge k2; have e3 := vget_nil (img := ws) (k := k2) (by omega); split at e2 <;> omega) | (by_cases hq : 0 ≤ at_ ∧ at_ < (ws.length : Int) <;> first | (have e0 : (vput ws l at_ x_).1 = 0 := congrArg Prod.fst (hin hq); omega) | (have e0 : (vput ws l at_ x_).1 = 8 := congrArg Prod.fst (hout hq); omega) | (have e0 : (vput ws l at_ x_).1 = 8 := congrArg Prod.fst (hout (by omega)); exact ‹¬ (((vput ws l at_ x_).1 = 0) ↔ False)› (Iff.intro (fun h => by omega) False.elim))) | (simp only [vflat_length] at *; contradiction)
          ·
            have h65p : (((vflat ws ((vput ws l at_ x_).2)).length) : Int) = (ws.length : Int) := of_decide_eq_true (bnot_false h65)
            refine ops_set 74 (v := .bool false) (eq_bool_of (by kernel_rfl) h65) ?_
            refine ops_set 72 (v := .bool false) (eq_bool_of (by kernel_rfl) h65) ?_
            refine ops_set 73 (v := .bool false) (eq_bool_of (by kernel_rfl) h65) ?_
            refine ops_run 5 (by kernel_rfl) ?_
            rcases Bool.eq_false_or_eq_true (decide (at_ ≥ 0)) with h68 | h68
            ·
              have h68p : at_ ≥ 0 := of_decide_eq_true h68
              refine ops_set 79 (v := .bool true) (eq_bool_of (by kernel_rfl) h68) ?_
              refine ops_set 78 (v := .bool true) (eq_bool_of (by kernel_rfl) h68) ?_
              refine ops_run 7 (by kernel_rfl) ?_
              refine ops_done (by kernel_rfl) ?_
              refine hK61 _ _ ?_
              refine W.cond (!((decide ((vput ws l at_ x_).1 = 0)) == (decide (at_ < (ws.length : Int))))) (by kernel_rfl) (fun h69 => ?_) (fun h69 => ?_)
              ·
                have h69p : ¬ (((vput ws l at_ x_).1 = 0) ↔ (at_ < (ws.length : Int))) := beq_no decide_eq_true_iff decide_eq_true_iff (bnot_true h69)
                refine W.seq fun K70 hK70 => ?_
                refine W.region ?_
                refine ops_run 1 (by kernel_rfl) ?_
                refine ops_done (by kernel_rfl) ?_
                refine hK70 _ _ ?_
                refine W.ret (ret_seq ?_)
                have hs71 : St B w [] w57 [] := St.take (H := []) hs59
                exfalso
                first | contradiction | (have e0 := hf0 k2 (by omega); have e1 := hf1 k2 (by omega); have e2 := hge k2; have e3 := vget_nil (img := ws) (k := k2) (by omega); split at e2 <;> omega) | (by_cases hq : 0 ≤ at_ ∧ at_ < (ws.length : Int) <;> first | (have e0 : (vput ws l at_ x_).1 = 0 := congrArg Prod.fst (hin hq); omega) | (have e0 : (vput ws l at_ x_).1 = 8 := congrArg Prod.fst (hout hq); omega) | (have e0 : (vput ws l at_ x_).1 = 8 := congrArg Prod.fst (hout (by omega)); exact ‹¬ (((vput ws l at_ x_).1 = 0) ↔ False)› (Iff.intro (fun h => by omega) False.elim))) | (simp only [vflat_length] at *; contradiction)
              ·
                have h69p : (((vput ws l at_ x_).1 = 0) ↔ (at_ < (ws.length : Int))) := beq_yes decide_eq_true_iff decide_eq_true_iff (bnot_false h69)
                refine W.skip ?_
                refine hK60 _ _ ?_
                refine W.seq fun K72 hK72 => ?_
                refine W.seq fun K73 hK73 => ?_
                refine W.region ?_
                refine ops_run 1 (by kernel_rfl) ?_
                refine ops_done (by kernel_rfl) ?_
                refine hK73 _ _ ?_
                refine W.block ?_
                have hok1 := hs59.entAt 1 rfl viewA_ok
                have hf1 := fun (k : Nat) (hk : k < ws.length) => vflat_get hok1 hk
                have hf0 := fun (k : Nat) (hk : k < ws.length) => vflat_get hok0 hk
                have hge : ∀ k : Int, vget ws (vput ws l at_ x_).2 k = if k = at_ ∧ (0 ≤ at_ ∧ at_ < (ws.length : Int)) then x_ else vget ws l k := fun k => by
                  by_cases h : 0 ≤ at_ ∧ at_ < (ws.length : Int)
                  · rw [hin h, vget_vset h]; simp only [h, and_true]
                  · rw [hout h]; simp only [h, and_false, if_false]
                refine W.loop (G := Nat) (fun | k2, s_, w_ => (∃ us, s_ = slots 131 [(0, (.slice wa ws.length wc)), (2, (.int .i64 at_)), (3, (.int .u64 x_)), (9, (.pointer (some ⟨b15, 0, none⟩))), (10, (.pointer (some ⟨b20, 0, none⟩))), (12, (.slice a44 ((vflat ws l).length) c45)), (14, (.slice a55 ((vflat ws ((vput ws l at_ x_).2)).length) c56)), (15, (.int .i64 (k2 : Int)))] us) ∧ St B w [] w_ [kU64.row a55 c56 (vflat ws ((vput ws l at_ x_).2)), viewA (ptr b15) ws ((vput ws l at_ x_).2), kU64.row a44 c45 (vflat ws l), viewA (ptr b20) ws ([])] ∧ (k2 ≤ ws.length)) (fun k2 => ws.length - k2) 0 ⟨slots_intro _ (by kernel_rfl), hs59, Nat.zero_le _⟩ ?_
                rintro k2 _ w74 ⟨⟨us, rfl⟩, hs75, hk2_⟩
                refine W.seq fun K76 hK76 => ?_
                refine W.seq fun K77 hK77 => ?_
                refine W.region ?_
                refine ops_run 4 (by kernel_rfl) ?_
                refine ops_done (by kernel_rfl) ?_
                refine hK77 _ _ ?_
                refine W.cond (decide ((k2 : Int) < (ws.length : Int))) (by kernel_rfl) (fun h78 => ?_) (fun h78 => ?_)
                ·
                  have h78p : (k2 : Int) < (ws.length : Int) := of_decide_eq_true h78
                  refine W.skip ?_
                  refine hK76 _ _ ?_
                  refine W.seq fun K79 hK79 => ?_
                  refine W.block ?_
                  refine W.seq fun K80 hK80 => ?_
                  refine W.region ?_
                  refine ops_run 2 (by kernel_rfl) ?_
                  have hk81 : k2 < (vflat ws l).length := by omega
                  refine ops_R (runs_index (a := a44) (n := (vflat ws l).length) (z := (k2 : Int)) (size := 1) k2 rfl hk81 (kU64.addr (St.kcells kU64 hs75 2 rfl) hk81) (by kernel_rfl)) ?_
                  refine ops_R (runs_load (ad := ((adr a44 (k2 * 1)).add 0)) (v := (.int .u64 ((vflat ws l).getD k2 0))) (by kernel_rfl) (kU64.at (St.kcells kU64 hs75 2 rfl) hk81 0 0 rfl)) ?_
                  refine ops_run 1 (by kernel_rfl) ?_
                  refine ops_done (by kernel_rfl) ?_
                  refine hK80 _ _ ?_
                  refine W.seq fun K82 hK82 => ?_
                  refine W.seq fun K83 hK83 => ?_
                  refine W.region ?_
                  refine ops_run 3 (by kernel_rfl) ?_
                  refine ops_done (by kernel_rfl) ?_
                  refine hK83 _ _ ?_
                  refine W.cond (decide ((k2 : Int) = at_)) (by kernel_rfl) (fun h84 => ?_) (fun h84 => ?_)
                  ·
                    have h84p : (k2 : Int) = at_ := of_decide_eq_true h84
                    refine W.region ?_
                    refine ops_run 2 (by kernel_rfl) ?_
                    refine ops_done (by kernel_rfl) ?_
                    refine hK82 _ _ ?_
                    refine W.seq fun K85 hK85 => ?_
                    have hs86 := hs75.drew
                    refine W.regionD (fun w_ => St B w [] w_ [kU64.row a55 c56 (vflat ws ((vput ws l at_ x_).2)), viewA (ptr b15) ws ((vput ws l at_ x_).2), kU64.row a44 c45 (vflat ws l), viewA (ptr b20) ws ([])]) (by kernel_rfl) hs86 ?_
                    refine any_take 0 (by kernel_rfl) (fun _ => by kernel_rfl) hs86 ?_
                    refine any_take 1 (by kernel_rfl) (fun _ => by kernel_rfl) hs86 ?_
                    have hk87 : k2 < (vflat ws ((vput ws l at_ x_).2)).length := by omega
                    refine any_R 2 (by kernel_rfl) (fun _ hS_ => runs_index (a := a55) (n := (vflat ws ((vput ws l at_ x_).2)).length) (z := (k2 : Int)) (size := 1) k2 rfl hk87 (kU64.addr (St.kcells kU64 hs86 0 rfl) hk87) (by kernel_rfl)) hs86 ?_
                    refine any_R 3 (by kernel_rfl) (fun _ hS_ => runs_load (ad := ((adr a55 (k2 * 1)).add 0)) (v := (.int .u64 ((vflat ws ((vput ws l at_ x_).2)).getD k2 0))) (by kernel_rfl) (kU64.at (St.kcells kU64 hS_ 0 rfl) hk87 0 0 rfl)) hs86 ?_
                    refine any_take 4 (by kernel_rfl) (fun _ => by kernel_rfl) hs86 ?_
                    refine any_take 5 (by kernel_rfl) (fun _ => by kernel_rfl) hs86 ?_
                    refine any_take 6 (by kernel_rfl) (fun _ => by kernel_rfl) hs86 ?_
                    rcases Bool.eq_false_or_eq_true (!decide (((vflat ws ((vput ws l at_ x_).2)).getD k2 0) = x_)) with h88 | h88
                    ·
                      have h88p : ¬ (((vflat ws ((vput ws l at_ x_).2)).getD k2 0) = x_) := of_decide_eq_false (bnot_true h88)
                      refine any_set 106 (v := .bool true) (eq_bool_of (by kernel_rfl) h88) ?_
                      refine any_set 107 (v := .bool true) (eq_bool_of (by kernel_rfl) h88) ?_
                      refine any_skip 7 (by kernel_rfl) rfl (by kernel_rfl) hs86 ?_
                      refine any_skip 8 (by kernel_rfl) rfl (by kernel_rfl) hs86 ?_
                      refine any_skip 9 (by kernel_rfl) rfl (by kernel_rfl) hs86 ?_
                      refine any_skip 10 (by kernel_rfl) rfl (by kernel_rfl) hs86 ?_
                      refine any_skip 11 (by kernel_rfl) rfl (by kernel_rfl) hs86 ?_
                      refine any_take 12 (by kernel_rfl) (fun _ => by kernel_rfl) hs86 ?_
                      refine any_take 13 (by kernel_rfl) (fun _ => by kernel_rfl) hs86 ?_
                      refine any_skip 14 (by kernel_rfl) rfl (by kernel_rfl) hs86 ?_
                      refine any_skip 15 (by kernel_rfl) rfl (by kernel_rfl) hs86 ?_
                      refine any_skip 16 (by kernel_rfl) rfl (by kernel_rfl) hs86 ?_
                      refine any_skip 17 (by kernel_rfl) rfl (by kernel_rfl) hs86 ?_
                      refine any_skip 18 (by kernel_rfl) rfl (by kernel_rfl) hs86 ?_
                      refine any_skip 19 (by kernel_rfl) rfl (by kernel_rfl) hs86 ?_
                      refine any_skip 20 (by kernel_rfl) rfl (by kernel_rfl) hs86 ?_
                      refine any_skip 21 (by kernel_rfl) rfl (by kernel_rfl) hs86 ?_
                      refine any_take 22 (by kernel_rfl) (fun _ => by kernel_rfl) hs86 ?_
                      refine any_done (by kernel_rfl) ?_
                      refine hK85 _ _ ?_
                      refine W.cond_true true (by kernel_rfl) rfl ?_
                      refine W.seq fun K89 hK89 => ?_
                      refine W.region ?_
                      refine ops_run 1 (by kernel_rfl) ?_
                      refine ops_done (by kernel_rfl) ?_
                      refine hK89 _ _ ?_
                      refine W.ret (ret_block (ret_seq (ret_seq (ret_block (ret_seq ?_)))))
                      have hs90 : St B w [] w74.drew [] := St.take (H := []) hs86
                      exfalso
                      first | contradiction | (have e0 := hf0 k2 (by omega); have e1 := hf1 k2 (by omega); have e2 := hge k2; have e3 := vget_nil (img := ws) (k := k2) (by omega); split at e2 <;> omega) | (by_cases hq : 0 ≤ at_ ∧ at_ < (ws.length : Int) <;> first | (have e0 : (vput ws l at_ x_).1 = 0 := congrArg Prod.fst (hin hq); omega) | (have e0 : (vput ws l at_ x_).1 = 8 := congrArg Prod.fst (hout hq); omega) | (have e0 : (vput ws l at_ x_).1 = 8 := congrArg Prod.fst (hout (by omega)); exact ‹¬ (((vput ws l at_ x_).1 = 0) ↔ False)› (Iff.intro (fun h => by omega) False.elim))) | (simp only [vflat_length] at *; contradiction)
                    ·
                      have h88p : ((vflat ws ((vput ws l at_ x_).2)).getD k2 0) = x_ := of_decide_eq_true (bnot_false h88)
                      refine any_set 106 (v := .bool false) (eq_bool_of (by kernel_rfl) h88) ?_
                      refine any_set 107 (v := .bool false) (eq_bool_of (by kernel_rfl) h88) ?_
                      refine any_take 7 (by kernel_rfl) (fun _ => by kernel_rfl) hs86 ?_
                      refine any_take 8 (by kernel_rfl) (fun _ => by kernel_rfl) hs86 ?_
                      refine any_take 10 (by kernel_rfl) (fun _ => by kernel_rfl) hs86 ?_
                      refine any_step 9 (by kernel_rfl) (by kernel_rfl) ?_
                      refine ops_call (pre := []) hs86 (by kernel_rfl) (get_spec (at_ := (k2 : Int)) (hv := (hs86.entAt 1 rfl viewA_at)) B _) ?_
                      rintro _ _ w91 ⟨rfl, rfl⟩ hs92
                      have hs93 : St B w [] w91 [kU64.row a55 c56 (vflat ws ((vput ws l at_ x_).2)), viewA (ptr b15) ws ((vput ws l at_ x_).2), kU64.row a44 c45 (vflat ws l), viewA (ptr b20) ws ([])] := hs92
                      refine ops_done (by kernel_rfl) ⟨hs93, ?_⟩
                      refine any_take 11 (by kernel_rfl) (fun _ => by kernel_rfl) hs93 ?_
                      refine any_take 12 (by kernel_rfl) (fun _ => by kernel_rfl) hs93 ?_
                      refine any_take 13 (by kernel_rfl) (fun _ => by kernel_rfl) hs93 ?_
                      rcases Bool.eq_false_or_eq_true (!decide ((vget ws ((vput ws l at_ x_).2) (k2 : Int)) = x_)) with h94 | h94
                      ·
                        have h94p : ¬ ((vget ws ((vput ws l at_ x_).2) (k2 : Int)) = x_) := of_decide_eq_false (bnot_true h94)
                        refine any_set 112 (v := .bool true) (eq_bool_of (by kernel_rfl) h94) ?_
                        refine any_set 113 (v := .bool true) (eq_bool_of (by kernel_rfl) h94) ?_
                        refine any_set 114 (v := .bool true) (eq_bool_of (by kernel_rfl) h94) ?_
                        refine any_skip 14 (by kernel_rfl) rfl (by kernel_rfl) hs93 ?_
                        refine any_skip 15 (by kernel_rfl) rfl (by kernel_rfl) hs93 ?_
                        refine any_skip 16 (by kernel_rfl) rfl (by kernel_rfl) hs93 ?_
                        refine any_skip 17 (by kernel_rfl) rfl (by kernel_rfl) hs93 ?_
                        refine any_skip 18 (by kernel_rfl) rfl (by kernel_rfl) hs93 ?_
                        refine any_skip 19 (by kernel_rfl) rfl (by kernel_rfl) hs93 ?_
                        refine any_skip 20 (by kernel_rfl) rfl (by kernel_rfl) hs93 ?_
                        refine any_skip 21 (by kernel_rfl) rfl (by kernel_rfl) hs93 ?_
                        refine any_take 22 (by kernel_rfl) (fun _ => by kernel_rfl) hs93 ?_
                        refine any_done (by kernel_rfl) ?_
                        refine hK85 _ _ ?_
                        refine W.cond_true true (by kernel_rfl) rfl ?_
                        refine W.seq fun K95 hK95 => ?_
                        refine W.region ?_
                        refine ops_run 1 (by kernel_rfl) ?_
                        refine ops_done (by kernel_rfl) ?_
                        refine hK95 _ _ ?_
                        refine W.ret (ret_block (ret_seq (ret_seq (ret_block (ret_seq ?_)))))
                        have hs96 : St B w [] w91 [] := St.take (H := []) hs93
                        exfalso
                        first | contradiction | (have e0 := hf0 k2 (by omega); have e1 := hf1 k2 (by omega); have e2 := hge k2; have e3 := vget_nil (img := ws) (k := k2) (by omega); split at e2 <;> omega) | (by_cases hq : 0 ≤ at_ ∧ at_ < (ws.length : Int) <;> first | (have e0 : (vput ws l at_ x_).1 = 0 := congrArg Prod.fst (hin hq); omega) | (have e0 : (vput ws l at_ x_).1 = 8 := congrArg Prod.fst (hout hq); omega) | (have e0 : (vput ws l at_ x_).1 = 8 := congrArg Prod.fst (hout (by omega)); exact ‹¬ (((vput ws l at_ x_).1 = 0) ↔ False)› (Iff.intro (fun h => by omega) False.elim))) | (simp only [vflat_length] at *; contradiction)
                      ·
                        have h94p : (vget ws ((vput ws l at_ x_).2) (k2 : Int)) = x_ := of_decide_eq_true (bnot_false h94)
                        refine any_set 112 (v := .bool false) (eq_bool_of (by kernel_rfl) h94) ?_
                        refine any_set 113 (v := .bool false) (eq_bool_of (by kernel_rfl) h94) ?_
                        refine any_set 114 (v := .bool false) (eq_bool_of (by kernel_rfl) h94) ?_
                        refine any_take 14 (by kernel_rfl) (fun _ => by kernel_rfl) hs93 ?_
                        refine any_take 15 (by kernel_rfl) (fun _ => by kernel_rfl) hs93 ?_
                        refine any_take 17 (by kernel_rfl) (fun _ => by kernel_rfl) hs93 ?_
                        refine any_take 18 (by kernel_rfl) (fun _ => by kernel_rfl) hs93 ?_
                        have hk97 : k2 < ws.length := by omega
                        refine any_R 19 (by kernel_rfl) (fun _ hS_ => runs_index (a := wa) (n := ws.length) (z := (k2 : Int)) (size := 1) k2 rfl hk97 (kU64.addr (hs93.oldCells hw) hk97) (by kernel_rfl)) hs93 ?_
                        refine any_R 20 (by kernel_rfl) (fun _ hS_ => runs_load (ad := ((adr wa (k2 * 1)).add 0)) (v := (.int .u64 (ws.getD k2 0))) (by kernel_rfl) (kU64.at (hS_.oldCells hw) hk97 0 0 rfl)) hs93 ?_
                        refine any_step 16 (by kernel_rfl) (by kernel_rfl) ?_
                        refine ops_call (pre := []) hs93 (by kernel_rfl) (get_spec (at_ := (k2 : Int)) (hv := (hs93.entAt 3 rfl viewA_at)) B _) ?_
                        rintro _ _ w98 ⟨rfl, rfl⟩ hs99
                        have hs100 : St B w [] w98 [kU64.row a55 c56 (vflat ws ((vput ws l at_ x_).2)), viewA (ptr b15) ws ((vput ws l at_ x_).2), kU64.row a44 c45 (vflat ws l), viewA (ptr b20) ws ([])] := hs99
                        refine ops_done (by kernel_rfl) ⟨hs100, ?_⟩
                        refine any_take 21 (by kernel_rfl) (fun _ => by kernel_rfl) hs100 ?_
                        refine any_take 22 (by kernel_rfl) (fun _ => by kernel_rfl) hs100 ?_
                        refine any_done (by kernel_rfl) ?_
                        refine hK85 _ _ ?_
                        refine W.cond (!decide ((vget ws ([]) (k2 : Int)) = (ws.getD k2 0))) (by kernel_rfl) (fun h101 => ?_) (fun h101 => ?_)
                        ·
                          have h101p : ¬ ((vget ws ([]) (k2 : Int)) = (ws.getD k2 0)) := of_decide_eq_false (bnot_true h101)
                          refine W.seq fun K102 hK102 => ?_
                          refine W.region ?_
                          refine ops_run 1 (by kernel_rfl) ?_
                          refine ops_done (by kernel_rfl) ?_
                          refine hK102 _ _ ?_
                          refine W.ret (ret_block (ret_seq (ret_seq (ret_block (ret_seq ?_)))))
                          have hs103 : St B w [] w98 [] := St.take (H := []) hs100
                          exfalso
                          first | contradiction | (have e0 := hf0 k2 (by omega); have e1 := hf1 k2 (by omega); have e2 := hge k2; have e3 := vget_nil (img := ws) (k := k2) (by omega); split at e2 <;> omega) | (by_cases hq : 0 ≤ at_ ∧ at_ < (ws.length : Int) <;> first | (have e0 : (vput ws l at_ x_).1 = 0 := congrArg Prod.fst (hin hq); omega) | (have e0 : (vput ws l at_ x_).1 = 8 := congrArg Prod.fst (hout hq); omega) | (have e0 : (vput ws l at_ x_).1 = 8 := congrArg Prod.fst (hout (by omega)); exact ‹¬ (((vput ws l at_ x_).1 = 0) ↔ False)› (Iff.intro (fun h => by omega) False.elim))) | (simp only [vflat_length] at *; contradiction)
                        ·
                          have h101p : (vget ws ([]) (k2 : Int)) = (ws.getD k2 0) := of_decide_eq_true (bnot_false h101)
                          refine W.skip ?_
                          refine normal_block ?_
                          refine hK79 _ _ ?_
                          refine W.region ?_
                          refine ops_run 1 (by kernel_rfl) ?_
                          refine ops_val (v := .int .i64 (IntKind.i64.wrap ((k2 : Int) + 1))) (v' := .int .i64 ((k2 + 1 : Nat) : Int)) (by kernel_rfl) (congrArg (Value.int .i64) (wrap_i64 (by omega) (by omega))) ?_
                          refine ops_run 1 (by kernel_rfl) ?_
                          refine ops_done (by kernel_rfl) ?_
                          exact ⟨k2 + 1, ⟨slots_intro _ (by kernel_rfl), hs100, by omega⟩, by first | omega | (dsimp only; omega)⟩
                  ·
                    have h84p : ¬ ((k2 : Int) = at_) := of_decide_eq_false h84
                    refine W.skip ?_
                    refine hK82 _ _ ?_
                    refine W.seq fun K104 hK104 => ?_
                    have hs105 := hs75.drew
                    refine W.regionD (fun w_ => St B w [] w_ [kU64.row a55 c56 (vflat ws ((vput ws l at_ x_).2)), viewA (ptr b15) ws ((vput ws l at_ x_).2), kU64.row a44 c45 (vflat ws l), viewA (ptr b20) ws ([])]) (by kernel_rfl) hs105 ?_
                    refine any_take 0 (by kernel_rfl) (fun _ => by kernel_rfl) hs105 ?_
                    refine any_take 1 (by kernel_rfl) (fun _ => by kernel_rfl) hs105 ?_
                    have hk106 : k2 < (vflat ws ((vput ws l at_ x_).2)).length := by omega
                    refine any_R 2 (by kernel_rfl) (fun _ hS_ => runs_index (a := a55) (n := (vflat ws ((vput ws l at_ x_).2)).length) (z := (k2 : Int)) (size := 1) k2 rfl hk106 (kU64.addr (St.kcells kU64 hs105 0 rfl) hk106) (by kernel_rfl)) hs105 ?_
                    refine any_R 3 (by kernel_rfl) (fun _ hS_ => runs_load (ad := ((adr a55 (k2 * 1)).add 0)) (v := (.int .u64 ((vflat ws ((vput ws l at_ x_).2)).getD k2 0))) (by kernel_rfl) (kU64.at (St.kcells kU64 hS_ 0 rfl) hk106 0 0 rfl)) hs105 ?_
                    refine any_take 4 (by kernel_rfl) (fun _ => by kernel_rfl) hs105 ?_
                    refine any_take 5 (by kernel_rfl) (fun _ => by kernel_rfl) hs105 ?_
                    refine any_take 6 (by kernel_rfl) (fun _ => by kernel_rfl) hs105 ?_
                    rcases Bool.eq_false_or_eq_true (!decide (((vflat ws ((vput ws l at_ x_).2)).getD k2 0) = ((vflat ws l).getD k2 0))) with h107 | h107
                    ·
                      have h107p : ¬ (((vflat ws ((vput ws l at_ x_).2)).getD k2 0) = ((vflat ws l).getD k2 0)) := of_decide_eq_false (bnot_true h107)
                      refine any_set 106 (v := .bool true) (eq_bool_of (by kernel_rfl) h107) ?_
                      refine any_set 107 (v := .bool true) (eq_bool_of (by kernel_rfl) h107) ?_
                      refine any_skip 7 (by kernel_rfl) rfl (by kernel_rfl) hs105 ?_
                      refine any_skip 8 (by kernel_rfl) rfl (by kernel_rfl) hs105 ?_
                      refine any_skip 9 (by kernel_rfl) rfl (by kernel_rfl) hs105 ?_
                      refine any_skip 10 (by kernel_rfl) rfl (by kernel_rfl) hs105 ?_
                      refine any_skip 11 (by kernel_rfl) rfl (by kernel_rfl) hs105 ?_
                      refine any_take 12 (by kernel_rfl) (fun _ => by kernel_rfl) hs105 ?_
                      refine any_take 13 (by kernel_rfl) (fun _ => by kernel_rfl) hs105 ?_
                      refine any_skip 14 (by kernel_rfl) rfl (by kernel_rfl) hs105 ?_
                      refine any_skip 15 (by kernel_rfl) rfl (by kernel_rfl) hs105 ?_
                      refine any_skip 16 (by kernel_rfl) rfl (by kernel_rfl) hs105 ?_
                      refine any_skip 17 (by kernel_rfl) rfl (by kernel_rfl) hs105 ?_
                      refine any_skip 18 (by kernel_rfl) rfl (by kernel_rfl) hs105 ?_
                      refine any_skip 19 (by kernel_rfl) rfl (by kernel_rfl) hs105 ?_
                      refine any_skip 20 (by kernel_rfl) rfl (by kernel_rfl) hs105 ?_
                      refine any_skip 21 (by kernel_rfl) rfl (by kernel_rfl) hs105 ?_
                      refine any_take 22 (by kernel_rfl) (fun _ => by kernel_rfl) hs105 ?_
                      refine any_done (by kernel_rfl) ?_
                      refine hK104 _ _ ?_
                      refine W.cond_true true (by kernel_rfl) rfl ?_
                      refine W.seq fun K108 hK108 => ?_
                      refine W.region ?_
                      refine ops_run 1 (by kernel_rfl) ?_
                      refine ops_done (by kernel_rfl) ?_
                      refine hK108 _ _ ?_
                      refine W.ret (ret_block (ret_seq (ret_seq (ret_block (ret_seq ?_)))))
                      have hs109 : St B w [] w74.drew [] := St.take (H := []) hs105
                      exfalso
                      first | contradiction | (have e0 := hf0 k2 (by omega); have e1 := hf1 k2 (by omega); have e2 := hge k2; have e3 := vget_nil (img := ws) (k := k2) (by omega); split at e2 <;> omega) | (by_cases hq : 0 ≤ at_ ∧ at_ < (ws.length : Int) <;> first | (have e0 : (vput ws l at_ x_).1 = 0 := congrArg Prod.fst (hin hq); omega) | (have e0 : (vput ws l at_ x_).1 = 8 := congrArg Prod.fst (hout hq); omega) | (have e0 : (vput ws l at_ x_).1 = 8 := congrArg Prod.fst (hout (by omega)); exact ‹¬ (((vput ws l at_ x_).1 = 0) ↔ False)› (Iff.intro (fun h => by omega) False.elim))) | (simp only [vflat_length] at *; contradiction)
                    ·
                      have h107p : ((vflat ws ((vput ws l at_ x_).2)).getD k2 0) = ((vflat ws l).getD k2 0) := of_decide_eq_true (bnot_false h107)
                      refine any_set 106 (v := .bool false) (eq_bool_of (by kernel_rfl) h107) ?_
                      refine any_set 107 (v := .bool false) (eq_bool_of (by kernel_rfl) h107) ?_
                      refine any_take 7 (by kernel_rfl) (fun _ => by kernel_rfl) hs105 ?_
                      refine any_take 8 (by kernel_rfl) (fun _ => by kernel_rfl) hs105 ?_
                      refine any_take 10 (by kernel_rfl) (fun _ => by kernel_rfl) hs105 ?_
                      refine any_step 9 (by kernel_rfl) (by kernel_rfl) ?_
                      refine ops_call (pre := []) hs105 (by kernel_rfl) (get_spec (at_ := (k2 : Int)) (hv := (hs105.entAt 1 rfl viewA_at)) B _) ?_
                      rintro _ _ w110 ⟨rfl, rfl⟩ hs111
                      have hs112 : St B w [] w110 [kU64.row a55 c56 (vflat ws ((vput ws l at_ x_).2)), viewA (ptr b15) ws ((vput ws l at_ x_).2), kU64.row a44 c45 (vflat ws l), viewA (ptr b20) ws ([])] := hs111
                      refine ops_done (by kernel_rfl) ⟨hs112, ?_⟩
                      refine any_take 11 (by kernel_rfl) (fun _ => by kernel_rfl) hs112 ?_
                      refine any_take 12 (by kernel_rfl) (fun _ => by kernel_rfl) hs112 ?_
                      refine any_take 13 (by kernel_rfl) (fun _ => by kernel_rfl) hs112 ?_
                      rcases Bool.eq_false_or_eq_true (!decide ((vget ws ((vput ws l at_ x_).2) (k2 : Int)) = ((vflat ws l).getD k2 0))) with h113 | h113
                      ·
                        have h113p : ¬ ((vget ws ((vput ws l at_ x_).2) (k2 : Int)) = ((vflat ws l).getD k2 0)) := of_decide_eq_false (bnot_true h113)
                        refine any_set 112 (v := .bool true) (eq_bool_of (by kernel_rfl) h113) ?_
                        refine any_set 113 (v := .bool true) (eq_bool_of (by kernel_rfl) h113) ?_
                        refine any_set 114 (v := .bool true) (eq_bool_of (by kernel_rfl) h113) ?_
                        refine any_skip 14 (by kernel_rfl) rfl (by kernel_rfl) hs112 ?_
                        refine any_skip 15 (by kernel_rfl) rfl (by kernel_rfl) hs112 ?_
                        refine any_skip 16 (by kernel_rfl) rfl (by kernel_rfl) hs112 ?_
                        refine any_skip 17 (by kernel_rfl) rfl (by kernel_rfl) hs112 ?_
                        refine any_skip 18 (by kernel_rfl) rfl (by kernel_rfl) hs112 ?_
                        refine any_skip 19 (by kernel_rfl) rfl (by kernel_rfl) hs112 ?_
                        refine any_skip 20 (by kernel_rfl) rfl (by kernel_rfl) hs112 ?_
                        refine any_skip 21 (by kernel_rfl) rfl (by kernel_rfl) hs112 ?_
                        refine any_take 22 (by kernel_rfl) (fun _ => by kernel_rfl) hs112 ?_
                        refine any_done (by kernel_rfl) ?_
                        refine hK104 _ _ ?_
                        refine W.cond_true true (by kernel_rfl) rfl ?_
                        refine W.seq fun K114 hK114 => ?_
                        refine W.region ?_
                        refine ops_run 1 (by kernel_rfl) ?_
                        refine ops_done (by kernel_rfl) ?_
                        refine hK114 _ _ ?_
                        refine W.ret (ret_block (ret_seq (ret_seq (ret_block (ret_seq ?_)))))
                        have hs115 : St B w [] w110 [] := St.take (H := []) hs112
                        exfalso
                        first | contradiction | (have e0 := hf0 k2 (by omega); have e1 := hf1 k2 (by omega); have e2 := hge k2; have e3 := vget_nil (img := ws) (k := k2) (by omega); split at e2 <;> omega) | (by_cases hq : 0 ≤ at_ ∧ at_ < (ws.length : Int) <;> first | (have e0 : (vput ws l at_ x_).1 = 0 := congrArg Prod.fst (hin hq); omega) | (have e0 : (vput ws l at_ x_).1 = 8 := congrArg Prod.fst (hout hq); omega) | (have e0 : (vput ws l at_ x_).1 = 8 := congrArg Prod.fst (hout (by omega)); exact ‹¬ (((vput ws l at_ x_).1 = 0) ↔ False)› (Iff.intro (fun h => by omega) False.elim))) | (simp only [vflat_length] at *; contradiction)
                      ·
                        have h113p : (vget ws ((vput ws l at_ x_).2) (k2 : Int)) = ((vflat ws l).getD k2 0) := of_decide_eq_true (bnot_false h113)
                        refine any_set 112 (v := .bool false) (eq_bool_of (by kernel_rfl) h113) ?_
                        refine any_set 113 (v := .bool false) (eq_bool_of (by kernel_rfl) h113) ?_
                        refine any_set 114 (v := .bool false) (eq_bool_of (by kernel_rfl) h113) ?_
                        refine any_take 14 (by kernel_rfl) (fun _ => by kernel_rfl) hs112 ?_
                        refine any_take 15 (by kernel_rfl) (fun _ => by kernel_rfl) hs112 ?_
                        refine any_take 17 (by kernel_rfl) (fun _ => by kernel_rfl) hs112 ?_
                        refine any_take 18 (by kernel_rfl) (fun _ => by kernel_rfl) hs112 ?_
                        have hk116 : k2 < ws.length := by omega
                        refine any_R 19 (by kernel_rfl) (fun _ hS_ => runs_index (a := wa) (n := ws.length) (z := (k2 : Int)) (size := 1) k2 rfl hk116 (kU64.addr (hs112.oldCells hw) hk116) (by kernel_rfl)) hs112 ?_
                        refine any_R 20 (by kernel_rfl) (fun _ hS_ => runs_load (ad := ((adr wa (k2 * 1)).add 0)) (v := (.int .u64 (ws.getD k2 0))) (by kernel_rfl) (kU64.at (hS_.oldCells hw) hk116 0 0 rfl)) hs112 ?_
                        refine any_step 16 (by kernel_rfl) (by kernel_rfl) ?_
                        refine ops_call (pre := []) hs112 (by kernel_rfl) (get_spec (at_ := (k2 : Int)) (hv := (hs112.entAt 3 rfl viewA_at)) B _) ?_
                        rintro _ _ w117 ⟨rfl, rfl⟩ hs118
                        have hs119 : St B w [] w117 [kU64.row a55 c56 (vflat ws ((vput ws l at_ x_).2)), viewA (ptr b15) ws ((vput ws l at_ x_).2), kU64.row a44 c45 (vflat ws l), viewA (ptr b20) ws ([])] := hs118
                        refine ops_done (by kernel_rfl) ⟨hs119, ?_⟩
                        refine any_take 21 (by kernel_rfl) (fun _ => by kernel_rfl) hs119 ?_
                        refine any_take 22 (by kernel_rfl) (fun _ => by kernel_rfl) hs119 ?_
                        refine any_done (by kernel_rfl) ?_
                        refine hK104 _ _ ?_
                        refine W.cond (!decide ((vget ws ([]) (k2 : Int)) = (ws.getD k2 0))) (by kernel_rfl) (fun h120 => ?_) (fun h120 => ?_)
                        ·
                          have h120p : ¬ ((vget ws ([]) (k2 : Int)) = (ws.getD k2 0)) := of_decide_eq_false (bnot_true h120)
                          refine W.seq fun K121 hK121 => ?_
                          refine W.region ?_
                          refine ops_run 1 (by kernel_rfl) ?_
                          refine ops_done (by kernel_rfl) ?_
                          refine hK121 _ _ ?_
                          refine W.ret (ret_block (ret_seq (ret_seq (ret_block (ret_seq ?_)))))
                          have hs122 : St B w [] w117 [] := St.take (H := []) hs119
                          exfalso
                          first | contradiction | (have e0 := hf0 k2 (by omega); have e1 := hf1 k2 (by omega); have e2 := hge k2; have e3 := vget_nil (img := ws) (k := k2) (by omega); split at e2 <;> omega) | (by_cases hq : 0 ≤ at_ ∧ at_ < (ws.length : Int) <;> first | (have e0 : (vput ws l at_ x_).1 = 0 := congrArg Prod.fst (hin hq); omega) | (have e0 : (vput ws l at_ x_).1 = 8 := congrArg Prod.fst (hout hq); omega) | (have e0 : (vput ws l at_ x_).1 = 8 := congrArg Prod.fst (hout (by omega)); exact ‹¬ (((vput ws l at_ x_).1 = 0) ↔ False)› (Iff.intro (fun h => by omega) False.elim))) | (simp only [vflat_length] at *; contradiction)
                        ·
                          have h120p : (vget ws ([]) (k2 : Int)) = (ws.getD k2 0) := of_decide_eq_true (bnot_false h120)
                          refine W.skip ?_
                          refine normal_block ?_
                          refine hK79 _ _ ?_
                          refine W.region ?_
                          refine ops_run 1 (by kernel_rfl) ?_
                          refine ops_val (v := .int .i64 (IntKind.i64.wrap ((k2 : Int) + 1))) (v' := .int .i64 ((k2 + 1 : Nat) : Int)) (by kernel_rfl) (congrArg (Value.int .i64) (wrap_i64 (by omega) (by omega))) ?_
                          refine ops_run 1 (by kernel_rfl) ?_
                          refine ops_done (by kernel_rfl) ?_
                          exact ⟨k2 + 1, ⟨slots_intro _ (by kernel_rfl), hs119, by omega⟩, by first | omega | (dsimp only; omega)⟩
                ·
                  have h78p : ¬ ((k2 : Int) < (ws.length : Int)) := of_decide_eq_false h78
                  refine W.exit (exit_seq (exit_seq (exit_here ?_)))
                  refine hK72 _ _ ?_
                  refine W.seq fun K123 hK123 => ?_
                  refine W.region ?_
                  refine ops_run 1 (by kernel_rfl) ?_
                  refine ops_call (pre := []) hs75 (by kernel_rfl) (writes_spec (hv := (hs75.entAt 3 rfl viewA_at)) B _) ?_
                  rintro _ _ w126 ⟨a124, c125, rfl, rfl⟩ hs127
                  have hs128 : St B w [] w126 [kWr.row a124 c125 ([]), kU64.row a55 c56 (vflat ws ((vput ws l at_ x_).2)), viewA (ptr b15) ws ((vput ws l at_ x_).2), kU64.row a44 c45 (vflat ws l), viewA (ptr b20) ws ([])] := hs127
                  refine ops_run 3 (by kernel_rfl) ?_
                  refine ops_call (pre := []) hs128 (by kernel_rfl) (works5_spec B _) ?_
                  rintro _ _ w129 ⟨rfl, rfl⟩ hs130
                  have hs131 : St B w [] w129 [kWr.row a124 c125 ([]), kU64.row a55 c56 (vflat ws ((vput ws l at_ x_).2)), viewA (ptr b15) ws ((vput ws l at_ x_).2), kU64.row a44 c45 (vflat ws l), viewA (ptr b20) ws ([])] := hs130
                  refine ops_run 2 (by kernel_rfl) ?_
                  refine ops_done (by kernel_rfl) ?_
                  refine hK123 _ _ ?_
                  refine W.ret ?_
                  have hs132 : St B w [] w129 [] := St.take (H := []) hs131
                  refine ret_of (.bool true) (by kernel_rfl) ⟨_, ⟨rfl, rfl⟩, hs132⟩
            ·
              have h68p : ¬ (at_ ≥ 0) := of_decide_eq_false h68
              refine ops_set 79 (v := .bool false) (eq_bool_of (by kernel_rfl) h68) ?_
              refine ops_set 78 (v := .bool false) (eq_bool_of (by kernel_rfl) h68) ?_
              refine ops_run 7 (by kernel_rfl) ?_
              refine ops_done (by kernel_rfl) ?_
              refine hK61 _ _ ?_
              refine W.cond (!((decide ((vput ws l at_ x_).1 = 0)) == false)) (by kernel_rfl) (fun h133 => ?_) (fun h133 => ?_)
              ·
                have h133p : ¬ (((vput ws l at_ x_).1 = 0) ↔ False) := beq_no decide_eq_true_iff ff_iff (bnot_true h133)
                refine W.seq fun K134 hK134 => ?_
                refine W.region ?_
                refine ops_run 1 (by kernel_rfl) ?_
                refine ops_done (by kernel_rfl) ?_
                refine hK134 _ _ ?_
                refine W.ret (ret_seq ?_)
                have hs135 : St B w [] w57 [] := St.take (H := []) hs59
                exfalso
                first | contradiction | (have e0 := hf0 k2 (by omega); have e1 := hf1 k2 (by omega); have e2 := hge k2; have e3 := vget_nil (img := ws) (k := k2) (by omega); split at e2 <;> omega) | (by_cases hq : 0 ≤ at_ ∧ at_ < (ws.length : Int) <;> first | (have e0 : (vput ws l at_ x_).1 = 0 := congrArg Prod.fst (hin hq); omega) | (have e0 : (vput ws l at_ x_).1 = 8 := congrArg Prod.fst (hout hq); omega) | (have e0 : (vput ws l at_ x_).1 = 8 := congrArg Prod.fst (hout (by omega)); exact ‹¬ (((vput ws l at_ x_).1 = 0) ↔ False)› (Iff.intro (fun h => by omega) False.elim))) | (simp only [vflat_length] at *; contradiction)
              ·
                have h133p : (((vput ws l at_ x_).1 = 0) ↔ False) := beq_yes decide_eq_true_iff ff_iff (bnot_false h133)
                refine W.skip ?_
                refine hK60 _ _ ?_
                refine W.seq fun K136 hK136 => ?_
                refine W.seq fun K137 hK137 => ?_
                refine W.region ?_
                refine ops_run 1 (by kernel_rfl) ?_
                refine ops_done (by kernel_rfl) ?_
                refine hK137 _ _ ?_
                refine W.block ?_
                have hok1 := hs59.entAt 1 rfl viewA_ok
                have hf1 := fun (k : Nat) (hk : k < ws.length) => vflat_get hok1 hk
                have hf0 := fun (k : Nat) (hk : k < ws.length) => vflat_get hok0 hk
                have hge : ∀ k : Int, vget ws (vput ws l at_ x_).2 k = if k = at_ ∧ (0 ≤ at_ ∧ at_ < (ws.length : Int)) then x_ else vget ws l k := fun k => by
                  by_cases h : 0 ≤ at_ ∧ at_ < (ws.length : Int)
                  · rw [hin h, vget_vset h]; simp only [h, and_true]
                  · rw [hout h]; simp only [h, and_false, if_false]
                refine W.loop (G := Nat) (fun | k2, s_, w_ => (∃ us, s_ = slots 131 [(0, (.slice wa ws.length wc)), (2, (.int .i64 at_)), (3, (.int .u64 x_)), (9, (.pointer (some ⟨b15, 0, none⟩))), (10, (.pointer (some ⟨b20, 0, none⟩))), (12, (.slice a44 ((vflat ws l).length) c45)), (14, (.slice a55 ((vflat ws ((vput ws l at_ x_).2)).length) c56)), (15, (.int .i64 (k2 : Int)))] us) ∧ St B w [] w_ [kU64.row a55 c56 (vflat ws ((vput ws l at_ x_).2)), viewA (ptr b15) ws ((vput ws l at_ x_).2), kU64.row a44 c45 (vflat ws l), viewA (ptr b20) ws ([])] ∧ (k2 ≤ ws.length)) (fun k2 => ws.length - k2) 0 ⟨slots_intro _ (by kernel_rfl), hs59, Nat.zero_le _⟩ ?_
                rintro k2 _ w138 ⟨⟨us, rfl⟩, hs139, hk2_⟩
                refine W.seq fun K140 hK140 => ?_
                refine W.seq fun K141 hK141 => ?_
                refine W.region ?_
                refine ops_run 4 (by kernel_rfl) ?_
                refine ops_done (by kernel_rfl) ?_
                refine hK141 _ _ ?_
                refine W.cond (decide ((k2 : Int) < (ws.length : Int))) (by kernel_rfl) (fun h142 => ?_) (fun h142 => ?_)
                ·
                  have h142p : (k2 : Int) < (ws.length : Int) := of_decide_eq_true h142
                  refine W.skip ?_
                  refine hK140 _ _ ?_
                  refine W.seq fun K143 hK143 => ?_
                  refine W.block ?_
                  refine W.seq fun K144 hK144 => ?_
                  refine W.region ?_
                  refine ops_run 2 (by kernel_rfl) ?_
                  have hk145 : k2 < (vflat ws l).length := by omega
                  refine ops_R (runs_index (a := a44) (n := (vflat ws l).length) (z := (k2 : Int)) (size := 1) k2 rfl hk145 (kU64.addr (St.kcells kU64 hs139 2 rfl) hk145) (by kernel_rfl)) ?_
                  refine ops_R (runs_load (ad := ((adr a44 (k2 * 1)).add 0)) (v := (.int .u64 ((vflat ws l).getD k2 0))) (by kernel_rfl) (kU64.at (St.kcells kU64 hs139 2 rfl) hk145 0 0 rfl)) ?_
                  refine ops_run 1 (by kernel_rfl) ?_
                  refine ops_done (by kernel_rfl) ?_
                  refine hK144 _ _ ?_
                  refine W.seq fun K146 hK146 => ?_
                  refine W.seq fun K147 hK147 => ?_
                  refine W.region ?_
                  refine ops_run 3 (by kernel_rfl) ?_
                  refine ops_done (by kernel_rfl) ?_
                  refine hK147 _ _ ?_
                  refine W.cond (decide ((k2 : Int) = at_)) (by kernel_rfl) (fun h148 => ?_) (fun h148 => ?_)
                  ·
                    have h148p : (k2 : Int) = at_ := of_decide_eq_true h148
                    refine W.region ?_
                    refine ops_run 2 (by kernel_rfl) ?_
                    refine ops_done (by kernel_rfl) ?_
                    refine hK146 _ _ ?_
                    refine W.seq fun K149 hK149 => ?_
                    have hs150 := hs139.drew
                    refine W.regionD (fun w_ => St B w [] w_ [kU64.row a55 c56 (vflat ws ((vput ws l at_ x_).2)), viewA (ptr b15) ws ((vput ws l at_ x_).2), kU64.row a44 c45 (vflat ws l), viewA (ptr b20) ws ([])]) (by kernel_rfl) hs150 ?_
                    refine any_take 0 (by kernel_rfl) (fun _ => by kernel_rfl) hs150 ?_
                    refine any_take 1 (by kernel_rfl) (fun _ => by kernel_rfl) hs150 ?_
                    have hk151 : k2 < (vflat ws ((vput ws l at_ x_).2)).length := by omega
                    refine any_R 2 (by kernel_rfl) (fun _ hS_ => runs_index (a := a55) (n := (vflat ws ((vput ws l at_ x_).2)).length) (z := (k2 : Int)) (size := 1) k2 rfl hk151 (kU64.addr (St.kcells kU64 hs150 0 rfl) hk151) (by kernel_rfl)) hs150 ?_
                    refine any_R 3 (by kernel_rfl) (fun _ hS_ => runs_load (ad := ((adr a55 (k2 * 1)).add 0)) (v := (.int .u64 ((vflat ws ((vput ws l at_ x_).2)).getD k2 0))) (by kernel_rfl) (kU64.at (St.kcells kU64 hS_ 0 rfl) hk151 0 0 rfl)) hs150 ?_
                    refine any_take 4 (by kernel_rfl) (fun _ => by kernel_rfl) hs150 ?_
                    refine any_take 5 (by kernel_rfl) (fun _ => by kernel_rfl) hs150 ?_
                    refine any_take 6 (by kernel_rfl) (fun _ => by kernel_rfl) hs150 ?_
                    rcases Bool.eq_false_or_eq_true (!decide (((vflat ws ((vput ws l at_ x_).2)).getD k2 0) = x_)) with h152 | h152
                    ·
                      have h152p : ¬ (((vflat ws ((vput ws l at_ x_).2)).getD k2 0) = x_) := of_decide_eq_false (bnot_true h152)
                      refine any_set 106 (v := .bool true) (eq_bool_of (by kernel_rfl) h152) ?_
                      refine any_set 107 (v := .bool true) (eq_bool_of (by kernel_rfl) h152) ?_
                      refine any_skip 7 (by kernel_rfl) rfl (by kernel_rfl) hs150 ?_
                      refine any_skip 8 (by kernel_rfl) rfl (by kernel_rfl) hs150 ?_
                      refine any_skip 9 (by kernel_rfl) rfl (by kernel_rfl) hs150 ?_
                      refine any_skip 10 (by kernel_rfl) rfl (by kernel_rfl) hs150 ?_
                      refine any_skip 11 (by kernel_rfl) rfl (by kernel_rfl) hs150 ?_
                      refine any_take 12 (by kernel_rfl) (fun _ => by kernel_rfl) hs150 ?_
                      refine any_take 13 (by kernel_rfl) (fun _ => by kernel_rfl) hs150 ?_
                      refine any_skip 14 (by kernel_rfl) rfl (by kernel_rfl) hs150 ?_
                      refine any_skip 15 (by kernel_rfl) rfl (by kernel_rfl) hs150 ?_
                      refine any_skip 16 (by kernel_rfl) rfl (by kernel_rfl) hs150 ?_
                      refine any_skip 17 (by kernel_rfl) rfl (by kernel_rfl) hs150 ?_
                      refine any_skip 18 (by kernel_rfl) rfl (by kernel_rfl) hs150 ?_
                      refine any_skip 19 (by kernel_rfl) rfl (by kernel_rfl) hs150 ?_
                      refine any_skip 20 (by kernel_rfl) rfl (by kernel_rfl) hs150 ?_
                      refine any_skip 21 (by kernel_rfl) rfl (by kernel_rfl) hs150 ?_
                      refine any_take 22 (by kernel_rfl) (fun _ => by kernel_rfl) hs150 ?_
                      refine any_done (by kernel_rfl) ?_
                      refine hK149 _ _ ?_
                      refine W.cond_true true (by kernel_rfl) rfl ?_
                      refine W.seq fun K153 hK153 => ?_
                      refine W.region ?_
                      refine ops_run 1 (by kernel_rfl) ?_
                      refine ops_done (by kernel_rfl) ?_
                      refine hK153 _ _ ?_
                      refine W.ret (ret_block (ret_seq (ret_seq (ret_block (ret_seq ?_)))))
                      have hs154 : St B w [] w138.drew [] := St.take (H := []) hs150
                      exfalso
                      first | contradiction | (have e0 := hf0 k2 (by omega); have e1 := hf1 k2 (by omega); have e2 := hge k2; have e3 := vget_nil (img := ws) (k := k2) (by omega); split at e2 <;> omega) | (by_cases hq : 0 ≤ at_ ∧ at_ < (ws.length : Int) <;> first | (have e0 : (vput ws l at_ x_).1 = 0 := congrArg Prod.fst (hin hq); omega) | (have e0 : (vput ws l at_ x_).1 = 8 := congrArg Prod.fst (hout hq); omega) | (have e0 : (vput ws l at_ x_).1 = 8 := congrArg Prod.fst (hout (by omega)); exact ‹¬ (((vput ws l at_ x_).1 = 0) ↔ False)› (Iff.intro (fun h => by omega) False.elim))) | (simp only [vflat_length] at *; contradiction)
                    ·
                      have h152p : ((vflat ws ((vput ws l at_ x_).2)).getD k2 0) = x_ := of_decide_eq_true (bnot_false h152)
                      refine any_set 106 (v := .bool false) (eq_bool_of (by kernel_rfl) h152) ?_
                      refine any_set 107 (v := .bool false) (eq_bool_of (by kernel_rfl) h152) ?_
                      refine any_take 7 (by kernel_rfl) (fun _ => by kernel_rfl) hs150 ?_
                      refine any_take 8 (by kernel_rfl) (fun _ => by kernel_rfl) hs150 ?_
                      refine any_take 10 (by kernel_rfl) (fun _ => by kernel_rfl) hs150 ?_
                      refine any_step 9 (by kernel_rfl) (by kernel_rfl) ?_
                      refine ops_call (pre := []) hs150 (by kernel_rfl) (get_spec (at_ := (k2 : Int)) (hv := (hs150.entAt 1 rfl viewA_at)) B _) ?_
                      rintro _ _ w155 ⟨rfl, rfl⟩ hs156
                      have hs157 : St B w [] w155 [kU64.row a55 c56 (vflat ws ((vput ws l at_ x_).2)), viewA (ptr b15) ws ((vput ws l at_ x_).2), kU64.row a44 c45 (vflat ws l), viewA (ptr b20) ws ([])] := hs156
                      refine ops_done (by kernel_rfl) ⟨hs157, ?_⟩
                      refine any_take 11 (by kernel_rfl) (fun _ => by kernel_rfl) hs157 ?_
                      refine any_take 12 (by kernel_rfl) (fun _ => by kernel_rfl) hs157 ?_
                      refine any_take 13 (by kernel_rfl) (fun _ => by kernel_rfl) hs157 ?_
                      rcases Bool.eq_false_or_eq_true (!decide ((vget ws ((vput ws l at_ x_).2) (k2 : Int)) = x_)) with h158 | h158
                      ·
                        have h158p : ¬ ((vget ws ((vput ws l at_ x_).2) (k2 : Int)) = x_) := of_decide_eq_false (bnot_true h158)
                        refine any_set 112 (v := .bool true) (eq_bool_of (by kernel_rfl) h158) ?_
                        refine any_set 113 (v := .bool true) (eq_bool_of (by kernel_rfl) h158) ?_
                        refine any_set 114 (v := .bool true) (eq_bool_of (by kernel_rfl) h158) ?_
                        refine any_skip 14 (by kernel_rfl) rfl (by kernel_rfl) hs157 ?_
                        refine any_skip 15 (by kernel_rfl) rfl (by kernel_rfl) hs157 ?_
                        refine any_skip 16 (by kernel_rfl) rfl (by kernel_rfl) hs157 ?_
                        refine any_skip 17 (by kernel_rfl) rfl (by kernel_rfl) hs157 ?_
                        refine any_skip 18 (by kernel_rfl) rfl (by kernel_rfl) hs157 ?_
                        refine any_skip 19 (by kernel_rfl) rfl (by kernel_rfl) hs157 ?_
                        refine any_skip 20 (by kernel_rfl) rfl (by kernel_rfl) hs157 ?_
                        refine any_skip 21 (by kernel_rfl) rfl (by kernel_rfl) hs157 ?_
                        refine any_take 22 (by kernel_rfl) (fun _ => by kernel_rfl) hs157 ?_
                        refine any_done (by kernel_rfl) ?_
                        refine hK149 _ _ ?_
                        refine W.cond_true true (by kernel_rfl) rfl ?_
                        refine W.seq fun K159 hK159 => ?_
                        refine W.region ?_
                        refine ops_run 1 (by kernel_rfl) ?_
                        refine ops_done (by kernel_rfl) ?_
                        refine hK159 _ _ ?_
                        refine W.ret (ret_block (ret_seq (ret_seq (ret_block (ret_seq ?_)))))
                        have hs160 : St B w [] w155 [] := St.take (H := []) hs157
                        exfalso
                        first | contradiction | (have e0 := hf0 k2 (by omega); have e1 := hf1 k2 (by omega); have e2 := hge k2; have e3 := vget_nil (img := ws) (k := k2) (by omega); split at e2 <;> omega) | (by_cases hq : 0 ≤ at_ ∧ at_ < (ws.length : Int) <;> first | (have e0 : (vput ws l at_ x_).1 = 0 := congrArg Prod.fst (hin hq); omega) | (have e0 : (vput ws l at_ x_).1 = 8 := congrArg Prod.fst (hout hq); omega) | (have e0 : (vput ws l at_ x_).1 = 8 := congrArg Prod.fst (hout (by omega)); exact ‹¬ (((vput ws l at_ x_).1 = 0) ↔ False)› (Iff.intro (fun h => by omega) False.elim))) | (simp only [vflat_length] at *; contradiction)
                      ·
                        have h158p : (vget ws ((vput ws l at_ x_).2) (k2 : Int)) = x_ := of_decide_eq_true (bnot_false h158)
                        refine any_set 112 (v := .bool false) (eq_bool_of (by kernel_rfl) h158) ?_
                        refine any_set 113 (v := .bool false) (eq_bool_of (by kernel_rfl) h158) ?_
                        refine any_set 114 (v := .bool false) (eq_bool_of (by kernel_rfl) h158) ?_
                        refine any_take 14 (by kernel_rfl) (fun _ => by kernel_rfl) hs157 ?_
                        refine any_take 15 (by kernel_rfl) (fun _ => by kernel_rfl) hs157 ?_
                        refine any_take 17 (by kernel_rfl) (fun _ => by kernel_rfl) hs157 ?_
                        refine any_take 18 (by kernel_rfl) (fun _ => by kernel_rfl) hs157 ?_
                        have hk161 : k2 < ws.length := by omega
                        refine any_R 19 (by kernel_rfl) (fun _ hS_ => runs_index (a := wa) (n := ws.length) (z := (k2 : Int)) (size := 1) k2 rfl hk161 (kU64.addr (hs157.oldCells hw) hk161) (by kernel_rfl)) hs157 ?_
                        refine any_R 20 (by kernel_rfl) (fun _ hS_ => runs_load (ad := ((adr wa (k2 * 1)).add 0)) (v := (.int .u64 (ws.getD k2 0))) (by kernel_rfl) (kU64.at (hS_.oldCells hw) hk161 0 0 rfl)) hs157 ?_
                        refine any_step 16 (by kernel_rfl) (by kernel_rfl) ?_
                        refine ops_call (pre := []) hs157 (by kernel_rfl) (get_spec (at_ := (k2 : Int)) (hv := (hs157.entAt 3 rfl viewA_at)) B _) ?_
                        rintro _ _ w162 ⟨rfl, rfl⟩ hs163
                        have hs164 : St B w [] w162 [kU64.row a55 c56 (vflat ws ((vput ws l at_ x_).2)), viewA (ptr b15) ws ((vput ws l at_ x_).2), kU64.row a44 c45 (vflat ws l), viewA (ptr b20) ws ([])] := hs163
                        refine ops_done (by kernel_rfl) ⟨hs164, ?_⟩
                        refine any_take 21 (by kernel_rfl) (fun _ => by kernel_rfl) hs164 ?_
                        refine any_take 22 (by kernel_rfl) (fun _ => by kernel_rfl) hs164 ?_
                        refine any_done (by kernel_rfl) ?_
                        refine hK149 _ _ ?_
                        refine W.cond (!decide ((vget ws ([]) (k2 : Int)) = (ws.getD k2 0))) (by kernel_rfl) (fun h165 => ?_) (fun h165 => ?_)
                        ·
                          have h165p : ¬ ((vget ws ([]) (k2 : Int)) = (ws.getD k2 0)) := of_decide_eq_false (bnot_true h165)
                          refine W.seq fun K166 hK166 => ?_
                          refine W.region ?_
                          refine ops_run 1 (by kernel_rfl) ?_
                          refine ops_done (by kernel_rfl) ?_
                          refine hK166 _ _ ?_
                          refine W.ret (ret_block (ret_seq (ret_seq (ret_block (ret_seq ?_)))))
                          have hs167 : St B w [] w162 [] := St.take (H := []) hs164
                          exfalso
                          first | contradiction | (have e0 := hf0 k2 (by omega); have e1 := hf1 k2 (by omega); have e2 := hge k2; have e3 := vget_nil (img := ws) (k := k2) (by omega); split at e2 <;> omega) | (by_cases hq : 0 ≤ at_ ∧ at_ < (ws.length : Int) <;> first | (have e0 : (vput ws l at_ x_).1 = 0 := congrArg Prod.fst (hin hq); omega) | (have e0 : (vput ws l at_ x_).1 = 8 := congrArg Prod.fst (hout hq); omega) | (have e0 : (vput ws l at_ x_).1 = 8 := congrArg Prod.fst (hout (by omega)); exact ‹¬ (((vput ws l at_ x_).1 = 0) ↔ False)› (Iff.intro (fun h => by omega) False.elim))) | (simp only [vflat_length] at *; contradiction)
                        ·
                          have h165p : (vget ws ([]) (k2 : Int)) = (ws.getD k2 0) := of_decide_eq_true (bnot_false h165)
                          refine W.skip ?_
                          refine normal_block ?_
                          refine hK143 _ _ ?_
                          refine W.region ?_
                          refine ops_run 1 (by kernel_rfl) ?_
                          refine ops_val (v := .int .i64 (IntKind.i64.wrap ((k2 : Int) + 1))) (v' := .int .i64 ((k2 + 1 : Nat) : Int)) (by kernel_rfl) (congrArg (Value.int .i64) (wrap_i64 (by omega) (by omega))) ?_
                          refine ops_run 1 (by kernel_rfl) ?_
                          refine ops_done (by kernel_rfl) ?_
                          exact ⟨k2 + 1, ⟨slots_intro _ (by kernel_rfl), hs164, by omega⟩, by first | omega | (dsimp only; omega)⟩
                  ·
                    have h148p : ¬ ((k2 : Int) = at_) := of_decide_eq_false h148
                    refine W.skip ?_
                    refine hK146 _ _ ?_
                    refine W.seq fun K168 hK168 => ?_
                    have hs169 := hs139.drew
                    refine W.regionD (fun w_ => St B w [] w_ [kU64.row a55 c56 (vflat ws ((vput ws l at_ x_).2)), viewA (ptr b15) ws ((vput ws l at_ x_).2), kU64.row a44 c45 (vflat ws l), viewA (ptr b20) ws ([])]) (by kernel_rfl) hs169 ?_
                    refine any_take 0 (by kernel_rfl) (fun _ => by kernel_rfl) hs169 ?_
                    refine any_take 1 (by kernel_rfl) (fun _ => by kernel_rfl) hs169 ?_
                    have hk170 : k2 < (vflat ws ((vput ws l at_ x_).2)).length := by omega
                    refine any_R 2 (by kernel_rfl) (fun _ hS_ => runs_index (a := a55) (n := (vflat ws ((vput ws l at_ x_).2)).length) (z := (k2 : Int)) (size := 1) k2 rfl hk170 (kU64.addr (St.kcells kU64 hs169 0 rfl) hk170) (by kernel_rfl)) hs169 ?_
                    refine any_R 3 (by kernel_rfl) (fun _ hS_ => runs_load (ad := ((adr a55 (k2 * 1)).add 0)) (v := (.int .u64 ((vflat ws ((vput ws l at_ x_).2)).getD k2 0))) (by kernel_rfl) (kU64.at (St.kcells kU64 hS_ 0 rfl) hk170 0 0 rfl)) hs169 ?_
                    refine any_take 4 (by kernel_rfl) (fun _ => by kernel_rfl) hs169 ?_
                    refine any_take 5 (by kernel_rfl) (fun _ => by kernel_rfl) hs169 ?_
                    refine any_take 6 (by kernel_rfl) (fun _ => by kernel_rfl) hs169 ?_
                    rcases Bool.eq_false_or_eq_true (!decide (((vflat ws ((vput ws l at_ x_).2)).getD k2 0) = ((vflat ws l).getD k2 0))) with h171 | h171
                    ·
                      have h171p : ¬ (((vflat ws ((vput ws l at_ x_).2)).getD k2 0) = ((vflat ws l).getD k2 0)) := of_decide_eq_false (bnot_true h171)
                      refine any_set 106 (v := .bool true) (eq_bool_of (by kernel_rfl) h171) ?_
                      refine any_set 107 (v := .bool true) (eq_bool_of (by kernel_rfl) h171) ?_
                      refine any_skip 7 (by kernel_rfl) rfl (by kernel_rfl) hs169 ?_
                      refine any_skip 8 (by kernel_rfl) rfl (by kernel_rfl) hs169 ?_
                      refine any_skip 9 (by kernel_rfl) rfl (by kernel_rfl) hs169 ?_
                      refine any_skip 10 (by kernel_rfl) rfl (by kernel_rfl) hs169 ?_
                      refine any_skip 11 (by kernel_rfl) rfl (by kernel_rfl) hs169 ?_
                      refine any_take 12 (by kernel_rfl) (fun _ => by kernel_rfl) hs169 ?_
                      refine any_take 13 (by kernel_rfl) (fun _ => by kernel_rfl) hs169 ?_
                      refine any_skip 14 (by kernel_rfl) rfl (by kernel_rfl) hs169 ?_
                      refine any_skip 15 (by kernel_rfl) rfl (by kernel_rfl) hs169 ?_
                      refine any_skip 16 (by kernel_rfl) rfl (by kernel_rfl) hs169 ?_
                      refine any_skip 17 (by kernel_rfl) rfl (by kernel_rfl) hs169 ?_
                      refine any_skip 18 (by kernel_rfl) rfl (by kernel_rfl) hs169 ?_
                      refine any_skip 19 (by kernel_rfl) rfl (by kernel_rfl) hs169 ?_
                      refine any_skip 20 (by kernel_rfl) rfl (by kernel_rfl) hs169 ?_
                      refine any_skip 21 (by kernel_rfl) rfl (by kernel_rfl) hs169 ?_
                      refine any_take 22 (by kernel_rfl) (fun _ => by kernel_rfl) hs169 ?_
                      refine any_done (by kernel_rfl) ?_
                      refine hK168 _ _ ?_
                      refine W.cond_true true (by kernel_rfl) rfl ?_
                      refine W.seq fun K172 hK172 => ?_
                      refine W.region ?_
                      refine ops_run 1 (by kernel_rfl) ?_
                      refine ops_done (by kernel_rfl) ?_
                      refine hK172 _ _ ?_
                      refine W.ret (ret_block (ret_seq (ret_seq (ret_block (ret_seq ?_)))))
                      have hs173 : St B w [] w138.drew [] := St.take (H := []) hs169
                      exfalso
                      first | contradiction | (have e0 := hf0 k2 (by omega); have e1 := hf1 k2 (by omega); have e2 := hge k2; have e3 := vget_nil (img := ws) (k := k2) (by omega); split at e2 <;> omega) | (by_cases hq : 0 ≤ at_ ∧ at_ < (ws.length : Int) <;> first | (have e0 : (vput ws l at_ x_).1 = 0 := congrArg Prod.fst (hin hq); omega) | (have e0 : (vput ws l at_ x_).1 = 8 := congrArg Prod.fst (hout hq); omega) | (have e0 : (vput ws l at_ x_).1 = 8 := congrArg Prod.fst (hout (by omega)); exact ‹¬ (((vput ws l at_ x_).1 = 0) ↔ False)› (Iff.intro (fun h => by omega) False.elim))) | (simp only [vflat_length] at *; contradiction)
                    ·
                      have h171p : ((vflat ws ((vput ws l at_ x_).2)).getD k2 0) = ((vflat ws l).getD k2 0) := of_decide_eq_true (bnot_false h171)
                      refine any_set 106 (v := .bool false) (eq_bool_of (by kernel_rfl) h171) ?_
                      refine any_set 107 (v := .bool false) (eq_bool_of (by kernel_rfl) h171) ?_
                      refine any_take 7 (by kernel_rfl) (fun _ => by kernel_rfl) hs169 ?_
                      refine any_take 8 (by kernel_rfl) (fun _ => by kernel_rfl) hs169 ?_
                      refine any_take 10 (by kernel_rfl) (fun _ => by kernel_rfl) hs169 ?_
                      refine any_step 9 (by kernel_rfl) (by kernel_rfl) ?_
                      refine ops_call (pre := []) hs169 (by kernel_rfl) (get_spec (at_ := (k2 : Int)) (hv := (hs169.entAt 1 rfl viewA_at)) B _) ?_
                      rintro _ _ w174 ⟨rfl, rfl⟩ hs175
                      have hs176 : St B w [] w174 [kU64.row a55 c56 (vflat ws ((vput ws l at_ x_).2)), viewA (ptr b15) ws ((vput ws l at_ x_).2), kU64.row a44 c45 (vflat ws l), viewA (ptr b20) ws ([])] := hs175
                      refine ops_done (by kernel_rfl) ⟨hs176, ?_⟩
                      refine any_take 11 (by kernel_rfl) (fun _ => by kernel_rfl) hs176 ?_
                      refine any_take 12 (by kernel_rfl) (fun _ => by kernel_rfl) hs176 ?_
                      refine any_take 13 (by kernel_rfl) (fun _ => by kernel_rfl) hs176 ?_
                      rcases Bool.eq_false_or_eq_true (!decide ((vget ws ((vput ws l at_ x_).2) (k2 : Int)) = ((vflat ws l).getD k2 0))) with h177 | h177
                      ·
                        have h177p : ¬ ((vget ws ((vput ws l at_ x_).2) (k2 : Int)) = ((vflat ws l).getD k2 0)) := of_decide_eq_false (bnot_true h177)
                        refine any_set 112 (v := .bool true) (eq_bool_of (by kernel_rfl) h177) ?_
                        refine any_set 113 (v := .bool true) (eq_bool_of (by kernel_rfl) h177) ?_
                        refine any_set 114 (v := .bool true) (eq_bool_of (by kernel_rfl) h177) ?_
                        refine any_skip 14 (by kernel_rfl) rfl (by kernel_rfl) hs176 ?_
                        refine any_skip 15 (by kernel_rfl) rfl (by kernel_rfl) hs176 ?_
                        refine any_skip 16 (by kernel_rfl) rfl (by kernel_rfl) hs176 ?_
                        refine any_skip 17 (by kernel_rfl) rfl (by kernel_rfl) hs176 ?_
                        refine any_skip 18 (by kernel_rfl) rfl (by kernel_rfl) hs176 ?_
                        refine any_skip 19 (by kernel_rfl) rfl (by kernel_rfl) hs176 ?_
                        refine any_skip 20 (by kernel_rfl) rfl (by kernel_rfl) hs176 ?_
                        refine any_skip 21 (by kernel_rfl) rfl (by kernel_rfl) hs176 ?_
                        refine any_take 22 (by kernel_rfl) (fun _ => by kernel_rfl) hs176 ?_
                        refine any_done (by kernel_rfl) ?_
                        refine hK168 _ _ ?_
                        refine W.cond_true true (by kernel_rfl) rfl ?_
                        refine W.seq fun K178 hK178 => ?_
                        refine W.region ?_
                        refine ops_run 1 (by kernel_rfl) ?_
                        refine ops_done (by kernel_rfl) ?_
                        refine hK178 _ _ ?_
                        refine W.ret (ret_block (ret_seq (ret_seq (ret_block (ret_seq ?_)))))
                        have hs179 : St B w [] w174 [] := St.take (H := []) hs176
                        exfalso
                        first | contradiction | (have e0 := hf0 k2 (by omega); have e1 := hf1 k2 (by omega); have e2 := hge k2; have e3 := vget_nil (img := ws) (k := k2) (by omega); split at e2 <;> omega) | (by_cases hq : 0 ≤ at_ ∧ at_ < (ws.length : Int) <;> first | (have e0 : (vput ws l at_ x_).1 = 0 := congrArg Prod.fst (hin hq); omega) | (have e0 : (vput ws l at_ x_).1 = 8 := congrArg Prod.fst (hout hq); omega) | (have e0 : (vput ws l at_ x_).1 = 8 := congrArg Prod.fst (hout (by omega)); exact ‹¬ (((vput ws l at_ x_).1 = 0) ↔ False)› (Iff.intro (fun h => by omega) False.elim))) | (simp only [vflat_length] at *; contradiction)
                      ·
                        have h177p : (vget ws ((vput ws l at_ x_).2) (k2 : Int)) = ((vflat ws l).getD k2 0) := of_decide_eq_true (bnot_false h177)
                        refine any_set 112 (v := .bool false) (eq_bool_of (by kernel_rfl) h177) ?_
                        refine any_set 113 (v := .bool false) (eq_bool_of (by kernel_rfl) h177) ?_
                        refine any_set 114 (v := .bool false) (eq_bool_of (by kernel_rfl) h177) ?_
                        refine any_take 14 (by kernel_rfl) (fun _ => by kernel_rfl) hs176 ?_
                        refine any_take 15 (by kernel_rfl) (fun _ => by kernel_rfl) hs176 ?_
                        refine any_take 17 (by kernel_rfl) (fun _ => by kernel_rfl) hs176 ?_
                        refine any_take 18 (by kernel_rfl) (fun _ => by kernel_rfl) hs176 ?_
                        have hk180 : k2 < ws.length := by omega
                        refine any_R 19 (by kernel_rfl) (fun _ hS_ => runs_index (a := wa) (n := ws.length) (z := (k2 : Int)) (size := 1) k2 rfl hk180 (kU64.addr (hs176.oldCells hw) hk180) (by kernel_rfl)) hs176 ?_
                        refine any_R 20 (by kernel_rfl) (fun _ hS_ => runs_load (ad := ((adr wa (k2 * 1)).add 0)) (v := (.int .u64 (ws.getD k2 0))) (by kernel_rfl) (kU64.at (hS_.oldCells hw) hk180 0 0 rfl)) hs176 ?_
                        refine any_step 16 (by kernel_rfl) (by kernel_rfl) ?_
                        refine ops_call (pre := []) hs176 (by kernel_rfl) (get_spec (at_ := (k2 : Int)) (hv := (hs176.entAt 3 rfl viewA_at)) B _) ?_
                        rintro _ _ w181 ⟨rfl, rfl⟩ hs182
                        have hs183 : St B w [] w181 [kU64.row a55 c56 (vflat ws ((vput ws l at_ x_).2)), viewA (ptr b15) ws ((vput ws l at_ x_).2), kU64.row a44 c45 (vflat ws l), viewA (ptr b20) ws ([])] := hs182
                        refine ops_done (by kernel_rfl) ⟨hs183, ?_⟩
                        refine any_take 21 (by kernel_rfl) (fun _ => by kernel_rfl) hs183 ?_
                        refine any_take 22 (by kernel_rfl) (fun _ => by kernel_rfl) hs183 ?_
                        refine any_done (by kernel_rfl) ?_
                        refine hK168 _ _ ?_
                        refine W.cond (!decide ((vget ws ([]) (k2 : Int)) = (ws.getD k2 0))) (by kernel_rfl) (fun h184 => ?_) (fun h184 => ?_)
                        ·
                          have h184p : ¬ ((vget ws ([]) (k2 : Int)) = (ws.getD k2 0)) := of_decide_eq_false (bnot_true h184)
                          refine W.seq fun K185 hK185 => ?_
                          refine W.region ?_
                          refine ops_run 1 (by kernel_rfl) ?_
                          refine ops_done (by kernel_rfl) ?_
                          refine hK185 _ _ ?_
                          refine W.ret (ret_block (ret_seq (ret_seq (ret_block (ret_seq ?_)))))
                          have hs186 : St B w [] w181 [] := St.take (H := []) hs183
                          exfalso
                          first | contradiction | (have e0 := hf0 k2 (by omega); have e1 := hf1 k2 (by omega); have e2 := hge k2; have e3 := vget_nil (img := ws) (k := k2) (by omega); split at e2 <;> omega) | (by_cases hq : 0 ≤ at_ ∧ at_ < (ws.length : Int) <;> first | (have e0 : (vput ws l at_ x_).1 = 0 := congrArg Prod.fst (hin hq); omega) | (have e0 : (vput ws l at_ x_).1 = 8 := congrArg Prod.fst (hout hq); omega) | (have e0 : (vput ws l at_ x_).1 = 8 := congrArg Prod.fst (hout (by omega)); exact ‹¬ (((vput ws l at_ x_).1 = 0) ↔ False)› (Iff.intro (fun h => by omega) False.elim))) | (simp only [vflat_length] at *; contradiction)
                        ·
                          have h184p : (vget ws ([]) (k2 : Int)) = (ws.getD k2 0) := of_decide_eq_true (bnot_false h184)
                          refine W.skip ?_
                          refine normal_block ?_
                          refine hK143 _ _ ?_
                          refine W.region ?_
                          refine ops_run 1 (by kernel_rfl) ?_
                          refine ops_val (v := .int .i64 (IntKind.i64.wrap ((k2 : Int) + 1))) (v' := .int .i64 ((k2 + 1 : Nat) : Int)) (by kernel_rfl) (congrArg (Value.int .i64) (wrap_i64 (by omega) (by omega))) ?_
                          refine ops_run 1 (by kernel_rfl) ?_
                          refine ops_done (by kernel_rfl) ?_
                          exact ⟨k2 + 1, ⟨slots_intro _ (by kernel_rfl), hs183, by omega⟩, by first | omega | (dsimp only; omega)⟩
                ·
                  have h142p : ¬ ((k2 : Int) < (ws.length : Int)) := of_decide_eq_false h142
                  refine W.exit (exit_seq (exit_seq (exit_here ?_)))
                  refine hK136 _ _ ?_
                  refine W.seq fun K187 hK187 => ?_
                  refine W.region ?_
                  refine ops_run 1 (by kernel_rfl) ?_
                  refine ops_call (pre := []) hs139 (by kernel_rfl) (writes_spec (hv := (hs139.entAt 3 rfl viewA_at)) B _) ?_
                  rintro _ _ w190 ⟨a188, c189, rfl, rfl⟩ hs191
                  have hs192 : St B w [] w190 [kWr.row a188 c189 ([]), kU64.row a55 c56 (vflat ws ((vput ws l at_ x_).2)), viewA (ptr b15) ws ((vput ws l at_ x_).2), kU64.row a44 c45 (vflat ws l), viewA (ptr b20) ws ([])] := hs191
                  refine ops_run 3 (by kernel_rfl) ?_
                  refine ops_call (pre := []) hs192 (by kernel_rfl) (works5_spec B _) ?_
                  rintro _ _ w193 ⟨rfl, rfl⟩ hs194
                  have hs195 : St B w [] w193 [kWr.row a188 c189 ([]), kU64.row a55 c56 (vflat ws ((vput ws l at_ x_).2)), viewA (ptr b15) ws ((vput ws l at_ x_).2), kU64.row a44 c45 (vflat ws l), viewA (ptr b20) ws ([])] := hs194
                  refine ops_run 2 (by kernel_rfl) ?_
                  refine ops_done (by kernel_rfl) ?_
                  refine hK187 _ _ ?_
                  refine W.ret ?_
                  have hs196 : St B w [] w193 [] := St.take (H := []) hs195
                  refine ret_of (.bool true) (by kernel_rfl) ⟨_, ⟨rfl, rfl⟩, hs196⟩

end Go.Proofs.Ythimamnblklkbaa
