/- The walk of a law of layer 5, by a program. -/
import Derived.Test.YthimamnblklkbaaLt
namespace Go.Proofs.Ythimamnblklkbaa
open Go Go.RowKit

set_option maxRecDepth 20000 in
set_option maxHeartbeats 4000000 in
set_option linter.unusedVariables false in
theorem viewtwice_walk {wa sa : Option Addr} {wc sc : Nat} {ws : List Int} {ss : List (Int × Int × Int)} {d_ : Int} (B : Nat) (w : World) (hB : w.heap.size = B) (hw : CellsAt wa (kU64.cells ws) w) (hn : wa = none → wc = 0) (hst : CellsAt sa (kStep5.cells ss) w) (hd : 0 ≤ d_ ∧ d_ ≤ 255) : Spec Try.prog 4 #[(.slice wa ws.length wc), (.slice sa ss.length sc), (.int .u8 d_)] B w [] (fun v H' => v = .bool true ∧ H' = []) := by
  refine spec_Q Try.func4 rfl fun hs => ?_
  refine W.seq fun K1 hK1 => ?_
  refine W.region ?_
  refine ops_run 1 (by kernel_rfl) ?_
  refine ops_done (by kernel_rfl) ?_
  refine hK1 _ _ ?_
  clear hK1
  refine W.seq fun K2 hK2 => ?_
  refine W.seq fun K3 hK3 => ?_
  refine W.region ?_
  refine ops_run 4 (by kernel_rfl) ?_
  rcases Bool.eq_false_or_eq_true (decide ((ws.length : Int) > 1000)) with h4 | h4
  ·
    have h4p : (ws.length : Int) > 1000 := of_decide_eq_true h4
    refine ops_set 15 (v := .bool true) (eq_bool_of (by kernel_rfl) h4) ?_
    refine ops_set 14 (v := .bool true) (eq_bool_of (by kernel_rfl) h4) ?_
    refine ops_run 4 (by kernel_rfl) ?_
    refine ops_done (by kernel_rfl) ?_
    refine hK3 _ _ ?_
    clear hK3
    refine W.cond_true true (by kernel_rfl) rfl ?_
    refine W.seq fun K5 hK5 => ?_
    refine W.region ?_
    refine ops_call (pre := []) hs (by kernel_rfl) (works5_spec B _) ?_
    rintro _ _ w6 ⟨rfl, rfl⟩ hs7
    have hs8 : St B w [] w6 [] := hs7
    refine ops_run 1 (by kernel_rfl) ?_
    refine ops_done (by kernel_rfl) ?_
    refine hK5 _ _ ?_
    clear hK5
    refine W.ret (ret_seq ?_)
    refine ret_of (.bool true) (by kernel_rfl) ⟨_, ⟨rfl, rfl⟩, hs8⟩
  ·
    have h4p : ¬ ((ws.length : Int) > 1000) := of_decide_eq_false h4
    refine ops_set 15 (v := .bool false) (eq_bool_of (by kernel_rfl) h4) ?_
    refine ops_set 14 (v := .bool false) (eq_bool_of (by kernel_rfl) h4) ?_
    refine ops_run 4 (by kernel_rfl) ?_
    refine ops_done (by kernel_rfl) ?_
    refine hK3 _ _ ?_
    clear hK3
    refine W.cond (decide ((ss.length : Int) > 300)) (by kernel_rfl) (fun h9 => ?_) (fun h9 => ?_)
    ·
      have h9p : (ss.length : Int) > 300 := of_decide_eq_true h9
      refine W.seq fun K10 hK10 => ?_
      refine W.region ?_
      refine ops_call (pre := []) hs (by kernel_rfl) (works5_spec B _) ?_
      rintro _ _ w11 ⟨rfl, rfl⟩ hs12
      have hs13 : St B w [] w11 [] := hs12
      refine ops_run 1 (by kernel_rfl) ?_
      refine ops_done (by kernel_rfl) ?_
      refine hK10 _ _ ?_
      clear hK10
      refine W.ret (ret_seq ?_)
      refine ret_of (.bool true) (by kernel_rfl) ⟨_, ⟨rfl, rfl⟩, hs13⟩
    ·
      have h9p : ¬ ((ss.length : Int) > 300) := of_decide_eq_false h9
      refine W.skip ?_
      refine hK2 _ _ ?_
      clear hK2
      refine W.seq fun K14 hK14 => ?_
      refine W.region ?_
      refine ops_run 1 (by kernel_rfl) ?_
      refine ops_call (pre := []) hs (by kernel_rfl) (new_spec (hc := (hs.oldCells hw)) (hn := hn) (hsz := (by omega)) B _) ?_
      rintro _ _ w16 ⟨b15, rfl, rfl⟩ hs17
      have hs18 : St B w [] w16 [viewA (ptr b15) ws ([])] := hs17
      refine ops_run 1 (by kernel_rfl) ?_
      refine ops_done (by kernel_rfl) ?_
      refine hK14 _ _ ?_
      clear hK14
      refine W.seq fun K19 hK19 => ?_
      refine W.seq fun K20 hK20 => ?_
      refine W.region ?_
      refine ops_run 2 (by kernel_rfl) ?_
      refine ops_done (by kernel_rfl) ?_
      refine hK20 _ _ ?_
      clear hK20
      refine W.cond_false false (by kernel_rfl) rfl ?_
      refine W.skip ?_
      refine hK19 _ _ ?_
      clear hK19
      refine W.seq fun K21 hK21 => ?_
      refine W.seq fun K22 hK22 => ?_
      refine W.region ?_
      refine ops_run 1 (by kernel_rfl) ?_
      refine ops_done (by kernel_rfl) ?_
      refine hK22 _ _ ?_
      clear hK22
      refine W.block ?_
      refine W.loop (G := Nat × List (Int × Int)) (fun | (k, l), s_, w_ => (∃ us, s_ = slots 80 [(0, (.slice wa ws.length wc)), (1, (.slice sa ss.length sc)), (2, (.int .u8 d_)), (7, (.pointer (some ⟨b15, 0, none⟩))), (8, (.int .i64 (k : Int)))] us) ∧ St B w [] w_ [viewA (ptr b15) ws l] ∧ (k ≤ ss.length)) (fun | (k, l) => ss.length - k) (0, []) ⟨slots_intro _ (by kernel_rfl), hs18, Nat.zero_le _⟩ ?_
      rintro ⟨k, l⟩ _ w23 ⟨⟨us, rfl⟩, hs24, hk_⟩
      refine W.seq fun K25 hK25 => ?_
      refine W.seq fun K26 hK26 => ?_
      refine W.region ?_
      refine ops_run 4 (by kernel_rfl) ?_
      refine ops_done (by kernel_rfl) ?_
      refine hK26 _ _ ?_
      clear hK26
      refine W.cond (decide ((k : Int) < (ss.length : Int))) (by kernel_rfl) (fun h27 => ?_) (fun h27 => ?_)
      ·
        have h27p : (k : Int) < (ss.length : Int) := of_decide_eq_true h27
        refine W.skip ?_
        refine hK25 _ _ ?_
        clear hK25
        refine W.seq fun K28 hK28 => ?_
        refine W.block ?_
        have hs29 := hs24.drew
        have hs30 : St B w [] w23.drew [] := St.take (H := []) hs29
        refine W.regionD (fun w_ => St B w [] w_ []) (by kernel_rfl) hs30 ?_
        refine any_val (v := (.pointer (some ⟨b15, 0, none⟩))) (v' := (.pointer (some ⟨b15, 0, none⟩))) 0 (by kernel_rfl) (fun _ => by kernel_rfl) rfl hs30 ?_
        refine any_val (v := (.slice sa ss.length sc)) (v' := (.slice sa ss.length sc)) 1 (by kernel_rfl) (fun _ => by kernel_rfl) rfl hs30 ?_
        refine any_val (v := (.int .i64 (k : Int))) (v' := (.int .i64 (k : Int))) 2 (by kernel_rfl) (fun _ => by kernel_rfl) rfl hs30 ?_
        have hk31 : k < ss.length := by omega
        refine any_R 3 (by kernel_rfl) (fun _ hS_ => runs_index (a := sa) (n := ss.length) (z := (k : Int)) (size := 3) k rfl hk31 (kStep5.addr (hs29.oldCells hst) hk31) (by kernel_rfl)) hs30 ?_
        refine any_val (v := (.pointer (some ((adr sa (k * 3)).add 1)))) (v' := (.pointer (some ((adr sa (k * 3)).add 1)))) 4 (by kernel_rfl) (fun _ => by kernel_rfl) rfl hs30 ?_
        refine any_R 5 (by kernel_rfl) (fun _ hS_ => runs_load (ad := ((adr sa (k * 3)).add 1)) (v := (.int .i64 ((ss.getD k (0, 0, 0)).2.1))) (by kernel_rfl) (kStep5.at (hS_.oldCells hst) hk31 (0, 0, 0) 1 rfl)) hs30 ?_
        refine any_val (v := (.slice sa ss.length sc)) (v' := (.slice sa ss.length sc)) 6 (by kernel_rfl) (fun _ => by kernel_rfl) rfl hs30 ?_
        refine any_val (v := (.int .i64 (k : Int))) (v' := (.int .i64 (k : Int))) 7 (by kernel_rfl) (fun _ => by kernel_rfl) rfl hs30 ?_
        have hk32 : k < ss.length := by omega
        refine any_R 8 (by kernel_rfl) (fun _ hS_ => runs_index (a := sa) (n := ss.length) (z := (k : Int)) (size := 3) k rfl hk32 (kStep5.addr (hs29.oldCells hst) hk32) (by kernel_rfl)) hs30 ?_
        refine any_val (v := (.pointer (some ((adr sa (k * 3)).add 2)))) (v' := (.pointer (some ((adr sa (k * 3)).add 2)))) 9 (by kernel_rfl) (fun _ => by kernel_rfl) rfl hs30 ?_
        refine any_R 10 (by kernel_rfl) (fun _ hS_ => runs_load (ad := ((adr sa (k * 3)).add 2)) (v := (.int .u64 ((ss.getD k (0, 0, 0)).2.2))) (by kernel_rfl) (kStep5.at (hS_.oldCells hst) hk32 (0, 0, 0) 2 rfl)) hs30 ?_
        refine any_step 11 (by kernel_rfl) (by kernel_rfl) ?_
        refine ops_call (pre := [viewA (ptr b15) ws l]) hs29 (by kernel_rfl) (put_spec (p := (.pointer (some ⟨b15, 0, none⟩))) (img := ws) (l := l) (at_ := (ss.getD k (0, 0, 0)).2.1) (x_ := (ss.getD k (0, 0, 0)).2.2) B _) ?_
        rintro _ _ w33 ⟨rfl, rfl⟩ hs34
        have hs35 : St B w [] w33 [viewA (ptr b15) ws ((vput ws l ((ss.getD k (0, 0, 0)).2.1) ((ss.getD k (0, 0, 0)).2.2)).2)] := hs34
        have hs36 : St B w [] w33 [] := St.take (H := []) hs35
        refine ops_done (by kernel_rfl) ⟨hs36, ?_⟩
        refine any_done (by kernel_rfl) ?_
        refine normal_block ?_
        refine hK28 _ _ ?_
        clear hK28
        refine W.region ?_
        refine ops_run 1 (by kernel_rfl) ?_
        refine ops_val (v := .int .i64 (IntKind.i64.wrap ((k : Int) + 1))) (v' := .int .i64 ((k + 1 : Nat) : Int)) (by kernel_rfl) (congrArg (Value.int .i64) (wrap_i64 (by omega) (by omega))) ?_
        refine ops_run 1 (by kernel_rfl) ?_
        refine ops_done (by kernel_rfl) ?_
        exact ⟨(k + 1, (vput ws l ((ss.getD k (0, 0, 0)).2.1) ((ss.getD k (0, 0, 0)).2.2)).2), ⟨slots_intro _ (by kernel_rfl), hs35, by omega⟩, by first | omega | (dsimp only; omega)⟩
      ·
        have h27p : ¬ ((k : Int) < (ss.length : Int)) := of_decide_eq_false h27
        refine W.exit (exit_seq (exit_seq (exit_here ?_)))
        refine hK21 _ _ ?_
        clear hK21
        refine W.seq fun K37 hK37 => ?_
        refine W.region ?_
        refine ops_run 1 (by kernel_rfl) ?_
        refine ops_call (pre := []) hs24 (by kernel_rfl) (writes_spec (hv := (hs24.entAt 0 rfl viewA_at)) B _) ?_
        rintro _ _ w40 ⟨a38, c39, rfl, rfl⟩ hs41
        have hs42 : St B w [] w40 [kWr.row a38 c39 l, viewA (ptr b15) ws l] := hs41
        refine ops_run 1 (by kernel_rfl) ?_
        refine ops_done (by kernel_rfl) ?_
        refine hK37 _ _ ?_
        clear hK37
        refine W.seq fun K43 hK43 => ?_
        refine W.region ?_
        refine ops_new (fun b => .slice (some ⟨b, 0, none⟩) 0 0) (.cells [].toArray 33 (0, 0)) hs42 (by kernel_rfl) (fun b46 w44 hs45 => ?_)
        refine ops_run 1 (by kernel_rfl) ?_
        have hs47 : St B w [] w44 [kU64.row (some ⟨b46, 0, none⟩) 0 ([]), kWr.row a38 c39 l, viewA (ptr b15) ws l] := St.kblk kU64 [] hs45 rfl rfl (by decide)
        refine ops_appendK kU64 (bytes := 8) (a' := wa) (c' := wc) (l := []) (m := ws) hs47 (by kernel_rfl) hn (hs47.oldCells hw) (by (unfold maxLen; try simp) <;> omega) (by (try simp) <;> omega) (fun a48 c49 w50 hs51 => ?_)
        have hs52 : St B w [] w50 [kU64.row a48 c49 ws, kWr.row a38 c39 l, viewA (ptr b15) ws l] := hs51
        refine ops_run 1 (by kernel_rfl) ?_
        refine ops_done (by kernel_rfl) ?_
        refine hK43 _ _ ?_
        clear hK43
        refine W.seq fun K53 hK53 => ?_
        refine W.seq fun K54 hK54 => ?_
        have hok := hs52.entAt 2 rfl viewA_ok
        have hmany := hok.many
        have hvl := vflat_length ws l
        have htk := fun m => congrArg Prod.fst (apply_take hok m)
        have hbt := fun m => base_take hok m
        refine W.region ?_
        refine ops_run 4 (by kernel_rfl) ?_
        rcases Bool.eq_false_or_eq_true (decide ((l.length : Int) > 96)) with h55 | h55
        ·
          have h55p : (l.length : Int) > 96 := of_decide_eq_true h55
          refine ops_set 51 (v := .bool true) (eq_bool_of (by kernel_rfl) h55) ?_
          refine ops_set 50 (v := .bool true) (eq_bool_of (by kernel_rfl) h55) ?_
          refine ops_run 12 (by kernel_rfl) ?_
          refine ops_done (by kernel_rfl) ?_
          refine hK54 _ _ ?_
          clear hK54
          refine W.cond_true true (by kernel_rfl) rfl ?_
          refine W.seq fun K56 hK56 => ?_
          refine W.region ?_
          refine ops_run 1 (by kernel_rfl) ?_
          refine ops_done (by kernel_rfl) ?_
          refine hK56 _ _ ?_
          clear hK56
          refine W.ret (ret_seq ?_)
          exfalso; first | contradiction | omega | exact absurd (htk _) (by assumption) | exact absurd hxa.1 (by assumption) | exact absurd hxa.2.1 (by assumption)
        ·
          have h55p : ¬ ((l.length : Int) > 96) := of_decide_eq_false h55
          refine ops_set 51 (v := .bool false) (eq_bool_of (by kernel_rfl) h55) ?_
          refine ops_set 50 (v := .bool false) (eq_bool_of (by kernel_rfl) h55) ?_
          refine ops_run 3 (by kernel_rfl) ?_
          refine ops_val (v := .int .i64 (IntKind.i64.wrap d_)) (v' := .int .i64 d_) (by kernel_rfl) (congrArg (Value.int .i64) (wrap_i64 (by omega) (by omega))) ?_
          refine ops_run 2 (by kernel_rfl) ?_
          refine ops_val (v := .int .i64 (IntKind.i64.wrap ((l.length : Int) + 1))) (v' := .int .i64 ((l.length + 1 : Nat) : Int)) (by kernel_rfl) (congrArg (Value.int .i64) (wrap_i64 (by omega) (by omega))) ?_
          obtain ⟨r57, hr58, hl59⟩ := rem_nat (x := d_) (y := ((l.length + 1 : Nat) : Int)) (by omega) (by omega)
          refine ops_R (v := .int .i64 (r57 : Int)) (runs_rem (k := .i64) (a := d_) (b := ((l.length + 1 : Nat) : Int)) (by kernel_rfl) (by omega) hr58) ?_
          have hc60 := St.kcap kWr hs52 1 rfl
          refine ops_R (runs_prefix (a := a38) (n := l.length) (c := c39) (z := (r57 : Int)) (size := 2) r57 rfl (by omega) (by omega) (by kernel_rfl)) ?_
          have hs61 : St B w [] w50 [kWr.row a38 c39 l, kU64.row a48 c49 ws, viewA (ptr b15) ws l] := hs52.front 1 (by simp)
          have hs62 : St B w [] w50 [kU64.row a48 c49 ws, kWr.row a38 c39 l, viewA (ptr b15) ws l] := hs61.front 1 (by simp)
          refine ops_call (pre := [kU64.row a48 c49 ws, kWr.row a38 c39 l]) hs62 (by kernel_rfl) (apply_specT (n := ws.length) (m := r57) (hn := rfl) (hm := (by rw [List.length_take]; omega)) (wa := a48) (wc := c49) (la := a38) (lc := c39) (words := ws) (l := (l.take r57)) (A := kWr.row a38 c39 l) (hA := (fun h => cells_take kWr r57 (rowA_cells h))) (hsz := (by rw [List.length_take]; omega)) B _) ?_
          rintro _ _ w63 ⟨rfl, rfl⟩ hs64
          have hs65 : St B w [] w63 [kU64.row a48 c49 ((vapply ws (l.take r57)).2), kWr.row a38 c39 l, viewA (ptr b15) ws l] := hs64
          refine ops_run 2 (by kernel_rfl) ?_
          refine ops_done (by kernel_rfl) ?_
          refine hK54 _ _ ?_
          clear hK54
          refine W.cond (!decide ((vapply ws (l.take r57)).1 = 0)) (by kernel_rfl) (fun h66 => ?_) (fun h66 => ?_)
          ·
            have h66p : ¬ ((vapply ws (l.take r57)).1 = 0) := of_decide_eq_false (bnot_true h66)
            refine W.seq fun K67 hK67 => ?_
            refine W.region ?_
            refine ops_run 1 (by kernel_rfl) ?_
            refine ops_done (by kernel_rfl) ?_
            refine hK67 _ _ ?_
            clear hK67
            refine W.ret (ret_seq ?_)
            exfalso; first | contradiction | omega | exact absurd (htk _) (by assumption) | exact absurd hxa.1 (by assumption) | exact absurd hxa.2.1 (by assumption)
          ·
            have h66p : (vapply ws (l.take r57)).1 = 0 := of_decide_eq_true (bnot_false h66)
            refine W.skip ?_
            refine hK53 _ _ ?_
            clear hK53
            refine W.seq fun K68 hK68 => ?_
            refine W.seq fun K69 hK69 => ?_
            refine W.region ?_
            refine ops_run 1 (by kernel_rfl) ?_
            refine ops_done (by kernel_rfl) ?_
            refine hK69 _ _ ?_
            clear hK69
            refine W.block ?_
            have hb0 : Base ws l (vapply ws (l.take r57)).2 := hbt _
            have hs72 : St B w [] w63 [kWr.row a38 c39 l, kU64.row a48 c49 ((vapply ws (l.take r57)).2), viewA (ptr b15) ws l] := hs65.front 1 (by simp)
            have hs73 : St B w [] w63 [viewA (ptr b15) ws l, kWr.row a38 c39 l, kU64.row a48 c49 ((vapply ws (l.take r57)).2)] := hs72.front 2 (by simp)
            refine W.loop (G := Nat × List Int) (fun | (k2, xs), s_, w_ => (∃ us, s_ = slots 80 [(7, (.pointer (some ⟨b15, 0, none⟩))), (9, (.slice a38 l.length c39)), (10, (.slice a48 ws.length c49)), (11, (.int .i64 (k2 : Int)))] us) ∧ St B w [] w_ [viewA (ptr b15) ws l, kWr.row a38 c39 l, kU64.row a48 c49 xs] ∧ (k2 ≤ 2) ∧ (Base ws l xs)) (fun | (k2, xs) => 2 - k2) (0, (vapply ws (l.take r57)).2) ⟨slots_intro _ (by kernel_rfl), hs73, Nat.zero_le _, hb0⟩ ?_
            rintro ⟨k2, xs⟩ _ w70 ⟨⟨us, rfl⟩, hs71, hk2, hx⟩
            refine W.seq fun K74 hK74 => ?_
            refine W.seq fun K75 hK75 => ?_
            refine W.region ?_
            refine ops_run 2 (by kernel_rfl) ?_
            refine ops_done (by kernel_rfl) ?_
            refine hK75 _ _ ?_
            clear hK75
            refine W.cond (decide ((k2 : Int) < 2)) (by kernel_rfl) (fun h76 => ?_) (fun h76 => ?_)
            ·
              have h76p : (k2 : Int) < 2 := of_decide_eq_true h76
              refine W.skip ?_
              refine hK74 _ _ ?_
              clear hK74
              refine W.seq fun K77 hK77 => ?_
              refine W.block ?_
              refine W.seq fun K78 hK78 => ?_
              have hxl := hx.1
              have hxa := base_ok hok hx
              refine W.region ?_
              refine ops_run 2 (by kernel_rfl) ?_
              have hs79 : St B w [] w70 [kWr.row a38 c39 l, viewA (ptr b15) ws l, kU64.row a48 c49 xs] := hs71.front 1 (by simp)
              have hs80 : St B w [] w70 [kU64.row a48 c49 xs, kWr.row a38 c39 l, viewA (ptr b15) ws l] := hs79.front 2 (by simp)
              refine ops_call (pre := [kU64.row a48 c49 xs, kWr.row a38 c39 l]) hs80 (by kernel_rfl) (apply_specN (n := ws.length) (hn := (by omega)) (wa := a48) (wc := c49) (la := a38) (lc := c39) (words := xs) (l := l) (A := kWr.row a38 c39 l) (hA := (fun h => rowA_cells h)) (hsz := (by omega)) B _) ?_
              rintro _ _ w81 ⟨rfl, rfl⟩ hs82
              have hs83 : St B w [] w81 [kU64.row a48 c49 ((vapply xs l).2), kWr.row a38 c39 l, viewA (ptr b15) ws l] := hs82
              refine ops_run 2 (by kernel_rfl) ?_
              rcases Bool.eq_false_or_eq_true (!decide ((vapply xs l).1 = 0)) with h84 | h84
              ·
                have h84p : ¬ ((vapply xs l).1 = 0) := of_decide_eq_false (bnot_true h84)
                refine ops_set 72 (v := .bool true) (eq_bool_of (by kernel_rfl) h84) ?_
                refine ops_set 71 (v := .bool true) (eq_bool_of (by kernel_rfl) h84) ?_
                refine ops_run 6 (by kernel_rfl) ?_
                refine ops_done (by kernel_rfl) ?_
                refine hK78 _ _ ?_
                clear hK78
                refine W.cond_true true (by kernel_rfl) rfl ?_
                refine W.seq fun K85 hK85 => ?_
                refine W.region ?_
                refine ops_run 1 (by kernel_rfl) ?_
                refine ops_done (by kernel_rfl) ?_
                refine hK85 _ _ ?_
                clear hK85
                refine W.ret (ret_block (ret_seq (ret_seq (ret_block (ret_seq ?_)))))
                exfalso; first | contradiction | omega | exact absurd (htk _) (by assumption) | exact absurd hxa.1 (by assumption) | exact absurd hxa.2.1 (by assumption)
              ·
                have h84p : (vapply xs l).1 = 0 := of_decide_eq_true (bnot_false h84)
                refine ops_set 72 (v := .bool false) (eq_bool_of (by kernel_rfl) h84) ?_
                refine ops_set 71 (v := .bool false) (eq_bool_of (by kernel_rfl) h84) ?_
                refine ops_run 2 (by kernel_rfl) ?_
                refine ops_call (pre := []) hs83 (by kernel_rfl) (flat_spec (hv := (hs83.entAt 2 rfl viewA_at)) B _) ?_
                rintro _ _ w88 ⟨a86, c87, rfl, rfl⟩ hs89
                have hs90 : St B w [] w88 [kU64.row a86 c87 (vflat ws l), kU64.row a48 c49 ((vapply xs l).2), kWr.row a38 c39 l, viewA (ptr b15) ws l] := hs89
                refine ops_call (pre := []) hs90 (by kernel_rfl) (same03_spec (xs := (vapply xs l).2) (ys := (vflat ws l)) (xc := c49) (yc := c87) (n := ws.length) (m := (vflat ws l).length) (hn := (by rw [vapply_length]; omega)) (hm := rfl) (hx := (St.kcells kU64 hs90 1 rfl)) (hy := (St.kcells kU64 hs90 0 rfl)) (hsz := (by omega)) B _) ?_
                rintro _ _ w91 ⟨rfl, rfl⟩ hs92
                have hs93 : St B w [] w91 [kU64.row a86 c87 (vflat ws l), kU64.row a48 c49 ((vapply xs l).2), kWr.row a38 c39 l, viewA (ptr b15) ws l] := hs92
                refine ops_run 2 (by kernel_rfl) ?_
                refine ops_done (by kernel_rfl) ?_
                refine hK78 _ _ ?_
                clear hK78
                refine W.cond (!(decide (((vapply xs l).2) = (vflat ws l)))) (by kernel_rfl) (fun h94 => ?_) (fun h94 => ?_)
                ·
                  have h94p : ¬ (((vapply xs l).2) = (vflat ws l)) := of_decide_eq_false (bnot_true h94)
                  refine W.seq fun K95 hK95 => ?_
                  refine W.region ?_
                  refine ops_run 1 (by kernel_rfl) ?_
                  refine ops_done (by kernel_rfl) ?_
                  refine hK95 _ _ ?_
                  clear hK95
                  refine W.ret (ret_block (ret_seq (ret_seq (ret_block (ret_seq ?_)))))
                  exfalso; first | contradiction | omega | exact absurd (htk _) (by assumption) | exact absurd hxa.1 (by assumption) | exact absurd hxa.2.1 (by assumption)
                ·
                  have h94p : ((vapply xs l).2) = (vflat ws l) := of_decide_eq_true (bnot_false h94)
                  refine W.skip ?_
                  refine normal_block ?_
                  refine hK77 _ _ ?_
                  clear hK77
                  refine W.region ?_
                  refine ops_run 1 (by kernel_rfl) ?_
                  refine ops_val (v := .int .i64 (IntKind.i64.wrap ((k2 : Int) + 1))) (v' := .int .i64 ((k2 + 1 : Nat) : Int)) (by kernel_rfl) (congrArg (Value.int .i64) (wrap_i64 (by omega) (by omega))) ?_
                  refine ops_run 1 (by kernel_rfl) ?_
                  refine ops_done (by kernel_rfl) ?_
                  have hs96 : St B w [] w91 [kU64.row a48 c49 ((vapply xs l).2), kU64.row a86 c87 (vflat ws l), kWr.row a38 c39 l, viewA (ptr b15) ws l] := hs93.front 1 (by simp)
                  have hs97 : St B w [] w91 [kWr.row a38 c39 l, kU64.row a48 c49 ((vapply xs l).2), kU64.row a86 c87 (vflat ws l), viewA (ptr b15) ws l] := hs96.front 2 (by simp)
                  have hs98 : St B w [] w91 [viewA (ptr b15) ws l, kWr.row a38 c39 l, kU64.row a48 c49 ((vapply xs l).2), kU64.row a86 c87 (vflat ws l)] := hs97.front 3 (by simp)
                  have hs99 : St B w [] w91 [viewA (ptr b15) ws l, kWr.row a38 c39 l, kU64.row a48 c49 ((vapply xs l).2)] := St.take (H := [viewA (ptr b15) ws l, kWr.row a38 c39 l, kU64.row a48 c49 ((vapply xs l).2)]) hs98
                  exact ⟨(k2 + 1, (vapply xs l).2), ⟨slots_intro _ (by kernel_rfl), hs99, by omega, (base_ok hok hx).2.2⟩, by first | omega | (dsimp only; omega)⟩
            ·
              have h76p : ¬ ((k2 : Int) < 2) := of_decide_eq_false h76
              refine W.exit (exit_seq (exit_seq (exit_here ?_)))
              refine hK68 _ _ ?_
              clear hK68
              refine W.seq fun K100 hK100 => ?_
              refine W.region ?_
              refine ops_call (pre := []) hs71 (by kernel_rfl) (works5_spec B _) ?_
              rintro _ _ w101 ⟨rfl, rfl⟩ hs102
              have hs103 : St B w [] w101 [viewA (ptr b15) ws l, kWr.row a38 c39 l, kU64.row a48 c49 xs] := hs102
              refine ops_run 1 (by kernel_rfl) ?_
              refine ops_done (by kernel_rfl) ?_
              refine hK100 _ _ ?_
              clear hK100
              refine W.ret ?_
              have hs104 : St B w [] w101 [] := St.take (H := []) hs103
              refine ret_of (.bool true) (by kernel_rfl) ⟨_, ⟨rfl, rfl⟩, hs104⟩

end Go.Proofs.Ythimamnblklkbaa
