/- The walk of a law of layer 5, by a program. -/
import Derived.Test.YthimamnblklkbaaLv
namespace Go.Proofs.Ythimamnblklkbaa
open Go Go.RowKit

set_option maxRecDepth 20000 in
set_option maxHeartbeats 4000000 in
set_option linter.unusedVariables false in
theorem viewplays_walk {wa sa : Option Addr} {wc sc : Nat} {ws : List Int} {ss : List (Int × Int × Int)} (B : Nat) (w : World) (hB : w.heap.size = B) (hw : CellsAt wa (kU64.cells ws) w) (hn : wa = none → wc = 0) (hst : CellsAt sa (kStep5.cells ss) w) : Spec Try.prog 6 #[(.slice wa ws.length wc), (.slice sa ss.length sc)] B w [] (fun v H' => v = .bool true ∧ H' = []) := by
  refine spec_Q Try.func6 rfl fun hs => ?_
  refine W.seq fun K1 hK1 => ?_
  refine W.region ?_
  refine ops_run 1 (by kernel_rfl) ?_
  refine ops_done (by kernel_rfl) ?_
  refine hK1 _ _ ?_
  clear hK1
  refine W.seq fun K2 hK2 => ?_
  refine W.seq fun K3 hK3 => ?_
  refine W.region ?_
  refine ops_run 4 (by kernel_rfl) ?_
  rcases Bool.eq_false_or_eq_true (decide ((ws.length : Int) > 1000)) with h4 | h4
  ·
    have h4p : (ws.length : Int) > 1000 := of_decide_eq_true h4
    refine ops_set 19 (v := .bool true) (eq_bool_of (by kernel_rfl) h4) ?_
    refine ops_set 18 (v := .bool true) (eq_bool_of (by kernel_rfl) h4) ?_
    refine ops_run 4 (by kernel_rfl) ?_
    refine ops_done (by kernel_rfl) ?_
    refine hK3 _ _ ?_
    clear hK3
    refine W.cond_true true (by kernel_rfl) rfl ?_
    refine W.seq fun K5 hK5 => ?_
    refine W.region ?_
    refine ops_call (pre := []) hs (by kernel_rfl) (works5_spec B _) ?_
    rintro _ _ w6 ⟨rfl, rfl⟩ hs7
    have hs8 : St B w [] w6 [] := hs7
    refine ops_run 1 (by kernel_rfl) ?_
    refine ops_done (by kernel_rfl) ?_
    refine hK5 _ _ ?_
    clear hK5
    refine W.ret (ret_seq ?_)
    refine ret_of (.bool true) (by kernel_rfl) ⟨_, ⟨rfl, rfl⟩, hs8⟩
  ·
    have h4p : ¬ ((ws.length : Int) > 1000) := of_decide_eq_false h4
    refine ops_set 19 (v := .bool false) (eq_bool_of (by kernel_rfl) h4) ?_
    refine ops_set 18 (v := .bool false) (eq_bool_of (by kernel_rfl) h4) ?_
    refine ops_run 4 (by kernel_rfl) ?_
    refine ops_done (by kernel_rfl) ?_
    refine hK3 _ _ ?_
    clear hK3
    refine W.cond (decide ((ss.length : Int) > 300)) (by kernel_rfl) (fun h9 => ?_) (fun h9 => ?_)
    ·
      have h9p : (ss.length : Int) > 300 := of_decide_eq_true h9
      refine W.seq fun K10 hK10 => ?_
      refine W.region ?_
      refine ops_call (pre := []) hs (by kernel_rfl) (works5_spec B _) ?_
      rintro _ _ w11 ⟨rfl, rfl⟩ hs12
      have hs13 : St B w [] w11 [] := hs12
      refine ops_run 1 (by kernel_rfl) ?_
      refine ops_done (by kernel_rfl) ?_
      refine hK10 _ _ ?_
      clear hK10
      refine W.ret (ret_seq ?_)
      refine ret_of (.bool true) (by kernel_rfl) ⟨_, ⟨rfl, rfl⟩, hs13⟩
    ·
      have h9p : ¬ ((ss.length : Int) > 300) := of_decide_eq_false h9
      refine W.skip ?_
      refine hK2 _ _ ?_
      clear hK2
      refine W.seq fun K14 hK14 => ?_
      refine W.region ?_
      refine ops_new (fun b => .slice (some ⟨b, 0, none⟩) 0 0) (.cells [].toArray 33 (0, 0)) hs (by kernel_rfl) (fun b17 w15 hs16 => ?_)
      refine ops_run 1 (by kernel_rfl) ?_
      have hs18 : St B w [] w15 [kU64.row (some ⟨b17, 0, none⟩) 0 ([])] := St.kblk kU64 [] hs16 rfl rfl (by decide)
      refine ops_appendK kU64 (bytes := 8) (a' := wa) (c' := wc) (l := []) (m := ws) hs18 (by kernel_rfl) hn (hs18.oldCells hw) (by (unfold maxLen; try simp) <;> omega) (by (try simp) <;> omega) (fun a19 c20 w21 hs22 => ?_)
      have hs23 : St B w [] w21 [kU64.row a19 c20 ws] := hs22
      refine ops_run 1 (by kernel_rfl) ?_
      refine ops_done (by kernel_rfl) ?_
      refine hK14 _ _ ?_
      clear hK14
      refine W.seq fun K24 hK24 => ?_
      refine W.region ?_
      refine ops_run 1 (by kernel_rfl) ?_
      refine ops_call (pre := []) hs23 (by kernel_rfl) (new_spec (hc := (St.kcells kU64 hs23 0 rfl)) (hn := (St.capnil kU64 hs23 0 rfl)) (hsz := (by omega)) B _) ?_
      rintro _ _ w26 ⟨b25, rfl, rfl⟩ hs27
      have hs28 : St B w [] w26 [viewA (ptr b25) ws ([]), kU64.row a19 c20 ws] := hs27
      refine ops_run 1 (by kernel_rfl) ?_
      refine ops_done (by kernel_rfl) ?_
      refine hK24 _ _ ?_
      clear hK24
      refine W.seq fun K29 hK29 => ?_
      refine W.region ?_
      refine ops_run 1 (by kernel_rfl) ?_
      refine ops_call (pre := []) hs28 (by kernel_rfl) (rnew_spec (hc := (hs28.oldCells hw)) (hn := hn) (hsz := (by omega)) B _) ?_
      rintro _ _ w31 ⟨b30, rfl, rfl⟩ hs32
      have hs33 : St B w [] w31 [refA (ptr b30) ws ([]), viewA (ptr b25) ws ([]), kU64.row a19 c20 ws] := hs32
      refine ops_run 1 (by kernel_rfl) ?_
      refine ops_done (by kernel_rfl) ?_
      refine hK29 _ _ ?_
      clear hK29
      refine W.seq fun K34 hK34 => ?_
      refine W.seq fun K35 hK35 => ?_
      refine W.region ?_
      refine ops_run 2 (by kernel_rfl) ?_
      refine ops_done (by kernel_rfl) ?_
      refine hK35 _ _ ?_
      clear hK35
      refine W.cond_false false (by kernel_rfl) rfl ?_
      refine W.skip ?_
      refine hK34 _ _ ?_
      clear hK34
      refine W.seq fun K36 hK36 => ?_
      refine W.seq fun K37 hK37 => ?_
      refine W.region ?_
      refine ops_run 1 (by kernel_rfl) ?_
      refine ops_done (by kernel_rfl) ?_
      refine hK37 _ _ ?_
      clear hK37
      refine W.block ?_
      refine W.loop (G := Nat × List Int) (fun | (k, xs), s_, w_ => (∃ us, s_ = slots 186 [(0, (.slice wa ws.length wc)), (1, (.slice sa ss.length sc)), (5, (.slice a19 ws.length c20)), (6, (.pointer (some ⟨b25, 0, none⟩))), (7, (.pointer (some ⟨b30, 0, none⟩))), (8, (.int .i64 (k : Int)))] us) ∧ St B w [] w_ [refA (ptr b30) ws ([]), viewA (ptr b25) ws ([]), kU64.row a19 c20 xs] ∧ (k ≤ ws.length) ∧ (xs.length = ws.length)) (fun | (k, xs) => ws.length - k) (0, ws) ⟨slots_intro _ (by kernel_rfl), hs33, Nat.zero_le _, rfl⟩ ?_
      rintro ⟨k, xs⟩ _ w38 ⟨⟨us, rfl⟩, hs39, hkk, hxk⟩
      refine W.seq fun K40 hK40 => ?_
      refine W.seq fun K41 hK41 => ?_
      refine W.region ?_
      refine ops_run 4 (by kernel_rfl) ?_
      refine ops_done (by kernel_rfl) ?_
      refine hK41 _ _ ?_
      clear hK41
      refine W.cond (decide ((k : Int) < (ws.length : Int))) (by kernel_rfl) (fun h42 => ?_) (fun h42 => ?_)
      ·
        have h42p : (k : Int) < (ws.length : Int) := of_decide_eq_true h42
        refine W.skip ?_
        refine hK40 _ _ ?_
        clear hK40
        refine W.seq fun K43 hK43 => ?_
        refine W.block ?_
        refine W.region ?_
        refine ops_run 2 (by kernel_rfl) ?_
        have hk44 : k < ws.length := by omega
        have hk45 : k < xs.length := (by omega)
        refine ops_R (runs_index (a := a19) (n := ws.length) (z := (k : Int)) (size := 1) k rfl hk44 (kU64.addr (St.kcells kU64 hs39 2 rfl) hk45) (by kernel_rfl)) ?_
        refine ops_R (runs_load (ad := ((adr a19 (k * 1)).add 0)) (v := (.int .u64 (xs.getD k 0))) (by kernel_rfl) (kU64.at (St.kcells kU64 hs39 2 rfl) hk45 0 0 rfl)) ?_
        refine ops_val (v := .int .u64 (IntKind.u64.wrap ((xs.getD k 0) + 1))) (v' := .int .u64 (((xs.getD k 0) + 1) % 18446744073709551616)) (by kernel_rfl) (congrArg (Value.int .u64) (wrap_u64_mod _)) ?_
        have hk46 : k < ws.length := by omega
        have hk47 : k < xs.length := (by omega)
        refine ops_R (runs_index (a := a19) (n := ws.length) (z := (k : Int)) (size := 1) k rfl hk46 (kU64.addr (St.kcells kU64 hs39 2 rfl) hk47) (by kernel_rfl)) ?_
        have hs50 : St B w [] w38 [kU64.row a19 c20 xs, refA (ptr b30) ws ([]), viewA (ptr b25) ws ([])] := hs39.front 2 (by simp)
        refine ops_storeK kU64 (j := 0) (vs := [(.int .u64 (((xs.getD k 0) + 1) % 18446744073709551616))]) 0 (((xs.getD k 0) + 1) % 18446744073709551616) hs50 hk47 (Nat.le_of_ble_eq_true rfl) (by simp) rfl rfl (by kernel_rfl) (fun w48 hs49 => ?_)
        refine ops_done (by kernel_rfl) ?_
        refine normal_block ?_
        refine hK43 _ _ ?_
        clear hK43
        refine W.region ?_
        refine ops_run 1 (by kernel_rfl) ?_
        refine ops_val (v := .int .i64 (IntKind.i64.wrap ((k : Int) + 1))) (v' := .int .i64 ((k + 1 : Nat) : Int)) (by kernel_rfl) (congrArg (Value.int .i64) (wrap_i64 (by omega) (by omega))) ?_
        refine ops_run 1 (by kernel_rfl) ?_
        refine ops_done (by kernel_rfl) ?_
        have hs52 : St B w [] w48 [viewA (ptr b25) ws ([]), kU64.row a19 c20 (xs.set k (((xs.getD k 0) + 1) % 18446744073709551616)), refA (ptr b30) ws ([])] := hs49.front 2 (by simp)
        have hs53 : St B w [] w48 [refA (ptr b30) ws ([]), viewA (ptr b25) ws ([]), kU64.row a19 c20 (xs.set k (((xs.getD k 0) + 1) % 18446744073709551616))] := hs52.front 2 (by simp)
        exact ⟨(k + 1, (xs.set k (((xs.getD k 0) + 1) % 18446744073709551616))), ⟨slots_intro _ (by kernel_rfl), hs53, by omega, (by rw [List.length_set]; exact hxk)⟩, by first | omega | (dsimp only; omega)⟩
      ·
        have h42p : ¬ ((k : Int) < (ws.length : Int)) := of_decide_eq_false h42
        refine W.exit (exit_seq (exit_seq (exit_here ?_)))
        refine hK36 _ _ ?_
        clear hK36
        refine W.seq fun K54 hK54 => ?_
        refine W.seq fun K55 hK55 => ?_
        refine W.region ?_
        refine ops_run 1 (by kernel_rfl) ?_
        refine ops_done (by kernel_rfl) ?_
        refine hK55 _ _ ?_
        clear hK55
        refine W.block ?_
        have hs58 : St B w [] w38 [viewA (ptr b25) ws ([]), refA (ptr b30) ws ([]), kU64.row a19 c20 xs] := hs39.front 1 (by simp)
        have hs59 : St B w [] w38 [viewA (ptr b25) ws ([]), refA (ptr b30) ws ([])] := St.take (H := [viewA (ptr b25) ws ([]), refA (ptr b30) ws ([])]) hs58
        refine W.loop (G := Nat × List (Int × Int)) (fun | (k2, l), s_, w_ => (∃ us, s_ = slots 186 [(0, (.slice wa ws.length wc)), (1, (.slice sa ss.length sc)), (6, (.pointer (some ⟨b25, 0, none⟩))), (7, (.pointer (some ⟨b30, 0, none⟩))), (9, (.int .i64 (k2 : Int)))] us) ∧ St B w [] w_ [viewA (ptr b25) ws l, refA (ptr b30) ws l] ∧ (k2 ≤ ss.length)) (fun | (k2, l) => ss.length - k2) (0, []) ⟨slots_intro _ (by kernel_rfl), hs59, Nat.zero_le _⟩ ?_
        rintro ⟨k2, l⟩ _ w56 ⟨⟨us, rfl⟩, hs57, hk2⟩
        refine W.seq fun K60 hK60 => ?_
        refine W.seq fun K61 hK61 => ?_
        refine W.region ?_
        refine ops_run 4 (by kernel_rfl) ?_
        refine ops_done (by kernel_rfl) ?_
        refine hK61 _ _ ?_
        clear hK61
        refine W.cond (decide ((k2 : Int) < (ss.length : Int))) (by kernel_rfl) (fun h62 => ?_) (fun h62 => ?_)
        ·
          have h62p : (k2 : Int) < (ss.length : Int) := of_decide_eq_true h62
          refine W.skip ?_
          refine hK60 _ _ ?_
          clear hK60
          refine W.seq fun K63 hK63 => ?_
          refine W.block ?_
          refine W.seq fun K64 hK64 => ?_
          refine W.region ?_
          refine ops_run 2 (by kernel_rfl) ?_
          have hk65 : k2 < ss.length := by omega
          refine ops_R (runs_index (a := sa) (n := ss.length) (z := (k2 : Int)) (size := 3) k2 rfl hk65 (kStep5.addr (hs57.oldCells hst) hk65) (by kernel_rfl)) ?_
          refine ops_R (runs_loadAgg (cs := [(.int .u8 ((ss.getD k2 (0, 0, 0)).1)), (.int .i64 ((ss.getD k2 (0, 0, 0)).2.1)), (.int .u64 ((ss.getD k2 (0, 0, 0)).2.2))]) (by kernel_rfl) (kStep5.all (hs57.oldCells hst) hk65 (0, 0, 0) 0 rfl)) ?_
          refine ops_new (fun b => .pointer (some ⟨b, 0, none⟩)) (.cells [(.int .u8 0), (.int .i64 0), (.int .u64 0)].toArray 35 (0, 0)) hs57 (by kernel_rfl) (fun b68 w66 hs67 => ?_)
          refine ops_store (off := 0) (cs := [(.int .u8 0), (.int .i64 0), (.int .u64 0)]) (vs := [(.int .u8 ((ss.getD k2 (0, 0, 0)).1)), (.int .i64 ((ss.getD k2 (0, 0, 0)).2.1)), (.int .u64 ((ss.getD k2 (0, 0, 0)).2.2))]) hs67 (by kernel_rfl) (by simp) rfl (fun w69 hs70 => ?_)
          have hs71 : St B w [] w69 [blk b68 (.cells [(.int .u8 ((ss.getD k2 (0, 0, 0)).1)), (.int .i64 ((ss.getD k2 (0, 0, 0)).2.1)), (.int .u64 ((ss.getD k2 (0, 0, 0)).2.2))].toArray 35 (0, 0)), viewA (ptr b25) ws l, refA (ptr b30) ws l] := hs70
          refine ops_done (by kernel_rfl) ?_
          refine hK64 _ _ ?_
          clear hK64
          refine W.seq fun K72 hK72 => ?_
          refine W.region ?_
          refine ops_run 1 (by kernel_rfl) ?_
          refine ops_done (by kernel_rfl) ?_
          refine hK72 _ _ ?_
          clear hK72
          refine W.seq fun K73 hK73 => ?_
          refine W.seq fun K74 hK74 => ?_
          refine W.region ?_
          refine ops_run 1 (by kernel_rfl) ?_
          refine ops_R (runs_load (ad := ⟨b68, 0, none⟩) (v := (.int .u8 ((ss.getD k2 (0, 0, 0)).1))) (by kernel_rfl) (hs71.cellAt 0 rfl rfl)) ?_
          refine ops_run 1 (by kernel_rfl) ?_
          refine ops_done (by kernel_rfl) ?_
          refine hK74 _ _ ?_
          clear hK74
          refine W.block ?_
          refine W.seq fun K75 hK75 => ?_
          refine W.region ?_
          refine ops_run 2 (by kernel_rfl) ?_
          refine ops_done (by kernel_rfl) ?_
          refine hK75 _ _ ?_
          clear hK75
          refine W.cond (decide (((ss.getD k2 (0, 0, 0)).1).tmod 5 = 3)) (by kernel_rfl) (fun h76 => ?_) (fun h76 => ?_)
          ·
            have h76p : ((ss.getD k2 (0, 0, 0)).1).tmod 5 = 3 := of_decide_eq_true h76
            have hs77 := hs71.drew
            have hs78 : St B w [] w69.drew [blk b68 (.cells [(.int .u8 ((ss.getD k2 (0, 0, 0)).1)), (.int .i64 ((ss.getD k2 (0, 0, 0)).2.1)), (.int .u64 ((ss.getD k2 (0, 0, 0)).2.2))].toArray 35 (0, 0))] := St.take (H := [blk b68 (.cells [(.int .u8 ((ss.getD k2 (0, 0, 0)).1)), (.int .i64 ((ss.getD k2 (0, 0, 0)).2.1)), (.int .u64 ((ss.getD k2 (0, 0, 0)).2.2))].toArray 35 (0, 0))]) hs77
            refine W.regionD (fun w_ => St B w [] w_ [blk b68 (.cells [(.int .u8 ((ss.getD k2 (0, 0, 0)).1)), (.int .i64 ((ss.getD k2 (0, 0, 0)).2.1)), (.int .u64 ((ss.getD k2 (0, 0, 0)).2.2))].toArray 35 (0, 0))]) (by kernel_rfl) hs78 ?_
            refine any_val (v := (.pointer (some ⟨b25, 0, none⟩))) (v' := (.pointer (some ⟨b25, 0, none⟩))) 0 (by kernel_rfl) (fun _ => by kernel_rfl) rfl hs78 ?_
            refine any_val (v := (.pointer (some ⟨b68, 1, none⟩))) (v' := (.pointer (some ⟨b68, 1, none⟩))) 1 (by kernel_rfl) (fun _ => by kernel_rfl) rfl hs78 ?_
            refine any_R 2 (by kernel_rfl) (fun _ hS_ => runs_load (ad := ⟨b68, 1, none⟩) (v := (.int .i64 ((ss.getD k2 (0, 0, 0)).2.1))) (by kernel_rfl) (hS_.cellAt 0 rfl rfl)) hs78 ?_
            refine any_val (v := (.pointer (some ⟨b30, 0, none⟩))) (v' := (.pointer (some ⟨b30, 0, none⟩))) 4 (by kernel_rfl) (fun _ => by kernel_rfl) rfl hs78 ?_
            refine any_val (v := (.pointer (some ⟨b68, 1, none⟩))) (v' := (.pointer (some ⟨b68, 1, none⟩))) 5 (by kernel_rfl) (fun _ => by kernel_rfl) rfl hs78 ?_
            refine any_R 6 (by kernel_rfl) (fun _ hS_ => runs_load (ad := ⟨b68, 1, none⟩) (v := (.int .i64 ((ss.getD k2 (0, 0, 0)).2.1))) (by kernel_rfl) (hS_.cellAt 0 rfl rfl)) hs78 ?_
            refine any_step 3 (by kernel_rfl) (by kernel_rfl) ?_
            refine ops_call (pre := []) hs77 (by kernel_rfl) (get_spec (at_ := (ss.getD k2 (0, 0, 0)).2.1) (hv := (hs77.entAt 1 rfl viewA_at)) B _) ?_
            rintro _ _ w79 ⟨rfl, rfl⟩ hs80
            have hs81 : St B w [] w79 [blk b68 (.cells [(.int .u8 ((ss.getD k2 (0, 0, 0)).1)), (.int .i64 ((ss.getD k2 (0, 0, 0)).2.1)), (.int .u64 ((ss.getD k2 (0, 0, 0)).2.2))].toArray 35 (0, 0)), viewA (ptr b25) ws l, refA (ptr b30) ws l] := hs80
            have hs82 : St B w [] w79 [blk b68 (.cells [(.int .u8 ((ss.getD k2 (0, 0, 0)).1)), (.int .i64 ((ss.getD k2 (0, 0, 0)).2.1)), (.int .u64 ((ss.getD k2 (0, 0, 0)).2.2))].toArray 35 (0, 0))] := St.take (H := [blk b68 (.cells [(.int .u8 ((ss.getD k2 (0, 0, 0)).1)), (.int .i64 ((ss.getD k2 (0, 0, 0)).2.1)), (.int .u64 ((ss.getD k2 (0, 0, 0)).2.2))].toArray 35 (0, 0))]) hs81
            refine ops_done (by kernel_rfl) ⟨hs82, ?_⟩
            refine any_step 7 (by kernel_rfl) (by kernel_rfl) ?_
            refine ops_call (pre := []) hs81 (by kernel_rfl) (rget_spec (at_ := (ss.getD k2 (0, 0, 0)).2.1) (hv := (hs81.entAt 2 rfl refA_at)) B _) ?_
            rintro _ _ w83 ⟨rfl, rfl⟩ hs84
            have hs85 : St B w [] w83 [blk b68 (.cells [(.int .u8 ((ss.getD k2 (0, 0, 0)).1)), (.int .i64 ((ss.getD k2 (0, 0, 0)).2.1)), (.int .u64 ((ss.getD k2 (0, 0, 0)).2.2))].toArray 35 (0, 0)), viewA (ptr b25) ws l, refA (ptr b30) ws l] := hs84
            have hs86 : St B w [] w83 [blk b68 (.cells [(.int .u8 ((ss.getD k2 (0, 0, 0)).1)), (.int .i64 ((ss.getD k2 (0, 0, 0)).2.1)), (.int .u64 ((ss.getD k2 (0, 0, 0)).2.2))].toArray 35 (0, 0))] := St.take (H := [blk b68 (.cells [(.int .u8 ((ss.getD k2 (0, 0, 0)).1)), (.int .i64 ((ss.getD k2 (0, 0, 0)).2.1)), (.int .u64 ((ss.getD k2 (0, 0, 0)).2.2))].toArray 35 (0, 0))]) hs85
            refine ops_done (by kernel_rfl) ⟨hs86, ?_⟩
            refine any_val (v := (.bool (decide ((vget ws l ((ss.getD k2 (0, 0, 0)).2.1)) = (vget ws l ((ss.getD k2 (0, 0, 0)).2.1)))))) (v' := (.bool (decide ((vget ws l ((ss.getD k2 (0, 0, 0)).2.1)) = (vget ws l ((ss.getD k2 (0, 0, 0)).2.1)))))) 8 (by kernel_rfl) (fun _ => by kernel_rfl) rfl hs86 ?_
            refine any_val (v := (.bool (decide ((vget ws l ((ss.getD k2 (0, 0, 0)).2.1)) = (vget ws l ((ss.getD k2 (0, 0, 0)).2.1)))))) (v' := (.bool (decide ((vget ws l ((ss.getD k2 (0, 0, 0)).2.1)) = (vget ws l ((ss.getD k2 (0, 0, 0)).2.1)))))) 9 (by kernel_rfl) (fun _ => by kernel_rfl) rfl hs86 ?_
            refine any_done (by kernel_rfl) ?_
            refine normal_block ?_
            refine hK73 _ _ ?_
            clear hK73
            refine W.seq fun K87 hK87 => ?_
            have hs88 : St B w [] w83 [refA (ptr b30) ws l, blk b68 (.cells [(.int .u8 ((ss.getD k2 (0, 0, 0)).1)), (.int .i64 ((ss.getD k2 (0, 0, 0)).2.1)), (.int .u64 ((ss.getD k2 (0, 0, 0)).2.2))].toArray 35 (0, 0)), viewA (ptr b25) ws l] := hs85.front 2 (by simp)
            obtain ⟨⟨_, ia89, ic90, la91, lc92, mn93⟩, ⟨ex94, hok95⟩, hs96⟩ := St.open hs88
            have hs97 : St B w [] w83 [blk b30 (.cells [(.slice ia89 ws.length ic90), (.slice la91 l.length lc92), (.bool mn93)].toArray 44 (0, 0)), kU64.row ia89 ic90 ws, kWr.row la91 lc92 l, blk b68 (.cells [(.int .u8 ((ss.getD k2 (0, 0, 0)).1)), (.int .i64 ((ss.getD k2 (0, 0, 0)).2.1)), (.int .u64 ((ss.getD k2 (0, 0, 0)).2.2))].toArray 35 (0, 0)), viewA (ptr b25) ws l] := by cases ex94; exact hs96
            have := hok95.many
            have hs98 := hs97.drew
            have hs99 : St B w [] w83.drew [blk b68 (.cells [(.int .u8 ((ss.getD k2 (0, 0, 0)).1)), (.int .i64 ((ss.getD k2 (0, 0, 0)).2.1)), (.int .u64 ((ss.getD k2 (0, 0, 0)).2.2))].toArray 35 (0, 0)), blk b30 (.cells [(.slice ia89 ws.length ic90), (.slice la91 l.length lc92), (.bool mn93)].toArray 44 (0, 0)), kU64.row ia89 ic90 ws, kWr.row la91 lc92 l, viewA (ptr b25) ws l] := hs98.front 3 (by simp)
            have hs100 : St B w [] w83.drew [blk b30 (.cells [(.slice ia89 ws.length ic90), (.slice la91 l.length lc92), (.bool mn93)].toArray 44 (0, 0)), blk b68 (.cells [(.int .u8 ((ss.getD k2 (0, 0, 0)).1)), (.int .i64 ((ss.getD k2 (0, 0, 0)).2.1)), (.int .u64 ((ss.getD k2 (0, 0, 0)).2.2))].toArray 35 (0, 0)), kU64.row ia89 ic90 ws, kWr.row la91 lc92 l, viewA (ptr b25) ws l] := hs99.front 1 (by simp)
            have hs101 : St B w [] w83.drew [blk b30 (.cells [(.slice ia89 ws.length ic90), (.slice la91 l.length lc92), (.bool mn93)].toArray 44 (0, 0)), blk b68 (.cells [(.int .u8 ((ss.getD k2 (0, 0, 0)).1)), (.int .i64 ((ss.getD k2 (0, 0, 0)).2.1)), (.int .u64 ((ss.getD k2 (0, 0, 0)).2.2))].toArray 35 (0, 0))] := St.take (H := [blk b30 (.cells [(.slice ia89 ws.length ic90), (.slice la91 l.length lc92), (.bool mn93)].toArray 44 (0, 0)), blk b68 (.cells [(.int .u8 ((ss.getD k2 (0, 0, 0)).1)), (.int .i64 ((ss.getD k2 (0, 0, 0)).2.1)), (.int .u64 ((ss.getD k2 (0, 0, 0)).2.2))].toArray 35 (0, 0))]) hs100
            refine W.regionD (fun w_ => St B w [] w_ [blk b30 (.cells [(.slice ia89 ws.length ic90), (.slice la91 l.length lc92), (.bool mn93)].toArray 44 (0, 0)), blk b68 (.cells [(.int .u8 ((ss.getD k2 (0, 0, 0)).1)), (.int .i64 ((ss.getD k2 (0, 0, 0)).2.1)), (.int .u64 ((ss.getD k2 (0, 0, 0)).2.2))].toArray 35 (0, 0))]) (by kernel_rfl) hs101 ?_
            refine any_val (v := (.bool (decide ((vget ws l ((ss.getD k2 (0, 0, 0)).2.1)) = (vget ws l ((ss.getD k2 (0, 0, 0)).2.1)))))) (v' := (.bool (decide ((vget ws l ((ss.getD k2 (0, 0, 0)).2.1)) = (vget ws l ((ss.getD k2 (0, 0, 0)).2.1)))))) 0 (by kernel_rfl) (fun _ => by kernel_rfl) rfl hs101 ?_
            refine any_val (v := (.bool (!(decide ((vget ws l ((ss.getD k2 (0, 0, 0)).2.1)) = (vget ws l ((ss.getD k2 (0, 0, 0)).2.1))))))) (v' := (.bool (!(decide ((vget ws l ((ss.getD k2 (0, 0, 0)).2.1)) = (vget ws l ((ss.getD k2 (0, 0, 0)).2.1))))))) 1 (by kernel_rfl) (fun _ => by kernel_rfl) rfl hs101 ?_
            refine any_val (v := (.bool (!(decide ((vget ws l ((ss.getD k2 (0, 0, 0)).2.1)) = (vget ws l ((ss.getD k2 (0, 0, 0)).2.1))))))) (v' := (.bool (!(decide ((vget ws l ((ss.getD k2 (0, 0, 0)).2.1)) = (vget ws l ((ss.getD k2 (0, 0, 0)).2.1))))))) 2 (by kernel_rfl) (fun _ => by kernel_rfl) rfl hs101 ?_
            rcases Bool.eq_false_or_eq_true (!(decide ((vget ws l ((ss.getD k2 (0, 0, 0)).2.1)) = (vget ws l ((ss.getD k2 (0, 0, 0)).2.1))))) with h102 | h102
            ·
              have h102p : ¬ ((vget ws l ((ss.getD k2 (0, 0, 0)).2.1)) = (vget ws l ((ss.getD k2 (0, 0, 0)).2.1))) := of_decide_eq_false (bnot_true h102)
              refine any_set 102 (v := .bool true) (eq_bool_of (by kernel_rfl) h102) ?_
              refine any_set 103 (v := .bool true) (eq_bool_of (by kernel_rfl) h102) ?_
              refine any_skip 3 (by kernel_rfl) rfl (by kernel_rfl) hs101 ?_
              refine any_skip 4 (by kernel_rfl) rfl (by kernel_rfl) hs101 ?_
              refine any_skip 5 (by kernel_rfl) rfl (by kernel_rfl) hs101 ?_
              refine any_skip 6 (by kernel_rfl) rfl (by kernel_rfl) hs101 ?_
              refine any_skip 7 (by kernel_rfl) rfl (by kernel_rfl) hs101 ?_
              refine any_skip 8 (by kernel_rfl) rfl (by kernel_rfl) hs101 ?_
              refine any_skip 9 (by kernel_rfl) rfl (by kernel_rfl) hs101 ?_
              refine any_skip 10 (by kernel_rfl) rfl (by kernel_rfl) hs101 ?_
              refine any_skip 11 (by kernel_rfl) rfl (by kernel_rfl) hs101 ?_
              refine any_skip 12 (by kernel_rfl) rfl (by kernel_rfl) hs101 ?_
              refine any_skip 13 (by kernel_rfl) rfl (by kernel_rfl) hs101 ?_
              refine any_skip 14 (by kernel_rfl) rfl (by kernel_rfl) hs101 ?_
              refine any_skip 15 (by kernel_rfl) rfl (by kernel_rfl) hs101 ?_
              refine any_val (v := (.bool true)) (v' := (.bool true)) 16 (by kernel_rfl) (fun _ => by kernel_rfl) rfl hs101 ?_
              refine any_done (by kernel_rfl) ?_
              have hs103 : St B w [] w83.drew [refA (ptr b30) ws l, blk b68 (.cells [(.int .u8 ((ss.getD k2 (0, 0, 0)).1)), (.int .i64 ((ss.getD k2 (0, 0, 0)).2.1)), (.int .u64 ((ss.getD k2 (0, 0, 0)).2.2))].toArray 35 (0, 0)), viewA (ptr b25) ws l] := ref_close (l := l) (ia := ia89) (ic := ic90) (la := la91) (lc := lc92) (many := mn93) hok95 hs98
              refine hK87 _ _ ?_
              clear hK87
              refine W.cond_true true (by kernel_rfl) rfl ?_
              refine W.seq fun K104 hK104 => ?_
              refine W.region ?_
              refine ops_run 1 (by kernel_rfl) ?_
              refine ops_done (by kernel_rfl) ?_
              refine hK104 _ _ ?_
              clear hK104
              refine W.ret (ret_block (ret_seq (ret_seq (ret_block (ret_seq ?_)))))
              exfalso; first | contradiction | omega
            ·
              have h102p : (vget ws l ((ss.getD k2 (0, 0, 0)).2.1)) = (vget ws l ((ss.getD k2 (0, 0, 0)).2.1)) := of_decide_eq_true (bnot_false h102)
              refine any_set 102 (v := .bool false) (eq_bool_of (by kernel_rfl) h102) ?_
              refine any_set 103 (v := .bool false) (eq_bool_of (by kernel_rfl) h102) ?_
              refine any_val (v := (.int .i64 (k2 : Int))) (v' := (.int .i64 (k2 : Int))) 3 (by kernel_rfl) (fun _ => by kernel_rfl) rfl hs101 ?_
              refine any_val (v := (.int .i64 ((k2 : Int).tmod 10))) (v' := (.int .i64 ((k2 : Int).tmod 10))) 4 (by kernel_rfl) (fun _ => by kernel_rfl) rfl hs101 ?_
              refine any_val (v := (.bool (decide ((k2 : Int).tmod 10 = 0)))) (v' := (.bool (decide ((k2 : Int).tmod 10 = 0)))) 5 (by kernel_rfl) (fun _ => by kernel_rfl) rfl hs101 ?_
              refine any_val (v := (.bool (decide ((k2 : Int).tmod 10 = 0)))) (v' := (.bool (decide ((k2 : Int).tmod 10 = 0)))) 6 (by kernel_rfl) (fun _ => by kernel_rfl) rfl hs101 ?_
              rcases Bool.eq_false_or_eq_true (decide ((k2 : Int).tmod 10 = 0)) with h105 | h105
              ·
                have h105p : (k2 : Int).tmod 10 = 0 := of_decide_eq_true h105
                refine any_set 106 (v := .bool true) (eq_bool_of (by kernel_rfl) h105) ?_
                refine any_set 107 (v := .bool true) (eq_bool_of (by kernel_rfl) h105) ?_
                refine any_val (v := (.pointer (some ⟨b25, 0, none⟩))) (v' := (.pointer (some ⟨b25, 0, none⟩))) 7 (by kernel_rfl) (fun _ => by kernel_rfl) rfl hs101 ?_
                refine any_val (v := (.pointer (some ⟨b30, 0, none⟩))) (v' := (.pointer (some ⟨b30, 0, none⟩))) 9 (by kernel_rfl) (fun _ => by kernel_rfl) rfl hs101 ?_
                refine any_val (v := (.pointer (some ⟨b30, 0, none⟩))) (v' := (.pointer (some ⟨b30, 0, none⟩))) 10 (by kernel_rfl) (fun _ => by kernel_rfl) rfl hs101 ?_
                refine any_val (v := (.pointer (some ⟨b30, 1, none⟩))) (v' := (.pointer (some ⟨b30, 1, none⟩))) 11 (by kernel_rfl) (fun _ => by kernel_rfl) rfl hs101 ?_
                refine any_R 12 (by kernel_rfl) (fun _ hS_ => runs_load (ad := ⟨b30, 1, none⟩) (v := (.slice la91 l.length lc92)) (by kernel_rfl) (hS_.cellAt 0 rfl rfl)) hs101 ?_
                refine any_step 8 (by kernel_rfl) (by kernel_rfl) ?_
                refine ops_call (pre := []) hs98 (by kernel_rfl) (writes_spec (hv := (hs98.entAt 4 rfl viewA_at)) B _) ?_
                rintro _ _ w108 ⟨a106, c107, rfl, rfl⟩ hs109
                have hs110 : St B w [] w108 [kWr.row a106 c107 l, blk b30 (.cells [(.slice ia89 ws.length ic90), (.slice la91 l.length lc92), (.bool mn93)].toArray 44 (0, 0)), kU64.row ia89 ic90 ws, kWr.row la91 lc92 l, blk b68 (.cells [(.int .u8 ((ss.getD k2 (0, 0, 0)).1)), (.int .i64 ((ss.getD k2 (0, 0, 0)).2.1)), (.int .u64 ((ss.getD k2 (0, 0, 0)).2.2))].toArray 35 (0, 0)), viewA (ptr b25) ws l] := hs109
                have hs111 : St B w [] w108 [blk b68 (.cells [(.int .u8 ((ss.getD k2 (0, 0, 0)).1)), (.int .i64 ((ss.getD k2 (0, 0, 0)).2.1)), (.int .u64 ((ss.getD k2 (0, 0, 0)).2.2))].toArray 35 (0, 0)), kWr.row a106 c107 l, blk b30 (.cells [(.slice ia89 ws.length ic90), (.slice la91 l.length lc92), (.bool mn93)].toArray 44 (0, 0)), kU64.row ia89 ic90 ws, kWr.row la91 lc92 l, viewA (ptr b25) ws l] := hs110.front 4 (by simp)
                have hs112 : St B w [] w108 [blk b30 (.cells [(.slice ia89 ws.length ic90), (.slice la91 l.length lc92), (.bool mn93)].toArray 44 (0, 0)), blk b68 (.cells [(.int .u8 ((ss.getD k2 (0, 0, 0)).1)), (.int .i64 ((ss.getD k2 (0, 0, 0)).2.1)), (.int .u64 ((ss.getD k2 (0, 0, 0)).2.2))].toArray 35 (0, 0)), kWr.row a106 c107 l, kU64.row ia89 ic90 ws, kWr.row la91 lc92 l, viewA (ptr b25) ws l] := hs111.front 2 (by simp)
                have hs113 : St B w [] w108 [blk b30 (.cells [(.slice ia89 ws.length ic90), (.slice la91 l.length lc92), (.bool mn93)].toArray 44 (0, 0)), blk b68 (.cells [(.int .u8 ((ss.getD k2 (0, 0, 0)).1)), (.int .i64 ((ss.getD k2 (0, 0, 0)).2.1)), (.int .u64 ((ss.getD k2 (0, 0, 0)).2.2))].toArray 35 (0, 0))] := St.take (H := [blk b30 (.cells [(.slice ia89 ws.length ic90), (.slice la91 l.length lc92), (.bool mn93)].toArray 44 (0, 0)), blk b68 (.cells [(.int .u8 ((ss.getD k2 (0, 0, 0)).1)), (.int .i64 ((ss.getD k2 (0, 0, 0)).2.1)), (.int .u64 ((ss.getD k2 (0, 0, 0)).2.2))].toArray 35 (0, 0))]) hs112
                refine ops_done (by kernel_rfl) ⟨hs113, ?_⟩
                refine any_step 13 (by kernel_rfl) (by kernel_rfl) ?_
                refine ops_call (pre := []) hs110 (by kernel_rfl) (same05_spec (xs := l) (ys := l) (xc := c107) (yc := lc92) (n := l.length) (m := l.length) (hn := rfl) (hm := rfl) (hx := (St.kcells kWr hs110 0 rfl)) (hy := (St.kcells kWr hs110 3 rfl)) (hsz := (by omega)) B _) ?_
                rintro _ _ w114 ⟨rfl, rfl⟩ hs115
                have hs116 : St B w [] w114 [kWr.row a106 c107 l, blk b30 (.cells [(.slice ia89 ws.length ic90), (.slice la91 l.length lc92), (.bool mn93)].toArray 44 (0, 0)), kU64.row ia89 ic90 ws, kWr.row la91 lc92 l, blk b68 (.cells [(.int .u8 ((ss.getD k2 (0, 0, 0)).1)), (.int .i64 ((ss.getD k2 (0, 0, 0)).2.1)), (.int .u64 ((ss.getD k2 (0, 0, 0)).2.2))].toArray 35 (0, 0)), viewA (ptr b25) ws l] := hs115
                have hs117 : St B w [] w114 [blk b68 (.cells [(.int .u8 ((ss.getD k2 (0, 0, 0)).1)), (.int .i64 ((ss.getD k2 (0, 0, 0)).2.1)), (.int .u64 ((ss.getD k2 (0, 0, 0)).2.2))].toArray 35 (0, 0)), kWr.row a106 c107 l, blk b30 (.cells [(.slice ia89 ws.length ic90), (.slice la91 l.length lc92), (.bool mn93)].toArray 44 (0, 0)), kU64.row ia89 ic90 ws, kWr.row la91 lc92 l, viewA (ptr b25) ws l] := hs116.front 4 (by simp)
                have hs118 : St B w [] w114 [blk b30 (.cells [(.slice ia89 ws.length ic90), (.slice la91 l.length lc92), (.bool mn93)].toArray 44 (0, 0)), blk b68 (.cells [(.int .u8 ((ss.getD k2 (0, 0, 0)).1)), (.int .i64 ((ss.getD k2 (0, 0, 0)).2.1)), (.int .u64 ((ss.getD k2 (0, 0, 0)).2.2))].toArray 35 (0, 0)), kWr.row a106 c107 l, kU64.row ia89 ic90 ws, kWr.row la91 lc92 l, viewA (ptr b25) ws l] := hs117.front 2 (by simp)
                have hs119 : St B w [] w114 [blk b30 (.cells [(.slice ia89 ws.length ic90), (.slice la91 l.length lc92), (.bool mn93)].toArray 44 (0, 0)), blk b68 (.cells [(.int .u8 ((ss.getD k2 (0, 0, 0)).1)), (.int .i64 ((ss.getD k2 (0, 0, 0)).2.1)), (.int .u64 ((ss.getD k2 (0, 0, 0)).2.2))].toArray 35 (0, 0))] := St.take (H := [blk b30 (.cells [(.slice ia89 ws.length ic90), (.slice la91 l.length lc92), (.bool mn93)].toArray 44 (0, 0)), blk b68 (.cells [(.int .u8 ((ss.getD k2 (0, 0, 0)).1)), (.int .i64 ((ss.getD k2 (0, 0, 0)).2.1)), (.int .u64 ((ss.getD k2 (0, 0, 0)).2.2))].toArray 35 (0, 0))]) hs118
                refine ops_done (by kernel_rfl) ⟨hs119, ?_⟩
                refine any_val (v := (.bool (!(decide (l = l))))) (v' := (.bool (!(decide (l = l))))) 14 (by kernel_rfl) (fun _ => by kernel_rfl) rfl hs119 ?_
                refine any_val (v := (.bool (!(decide (l = l))))) (v' := (.bool (!(decide (l = l))))) 15 (by kernel_rfl) (fun _ => by kernel_rfl) rfl hs119 ?_
                refine any_val (v := (.bool (!(decide (l = l))))) (v' := (.bool (!(decide (l = l))))) 16 (by kernel_rfl) (fun _ => by kernel_rfl) rfl hs119 ?_
                refine any_done (by kernel_rfl) ?_
                have hs120 : St B w [] w114 [viewA (ptr b25) ws l, kWr.row a106 c107 l, blk b30 (.cells [(.slice ia89 ws.length ic90), (.slice la91 l.length lc92), (.bool mn93)].toArray 44 (0, 0)), kU64.row ia89 ic90 ws, kWr.row la91 lc92 l, blk b68 (.cells [(.int .u8 ((ss.getD k2 (0, 0, 0)).1)), (.int .i64 ((ss.getD k2 (0, 0, 0)).2.1)), (.int .u64 ((ss.getD k2 (0, 0, 0)).2.2))].toArray 35 (0, 0))] := hs116.front 5 (by simp)
                have hs121 : St B w [] w114 [blk b68 (.cells [(.int .u8 ((ss.getD k2 (0, 0, 0)).1)), (.int .i64 ((ss.getD k2 (0, 0, 0)).2.1)), (.int .u64 ((ss.getD k2 (0, 0, 0)).2.2))].toArray 35 (0, 0)), viewA (ptr b25) ws l, kWr.row a106 c107 l, blk b30 (.cells [(.slice ia89 ws.length ic90), (.slice la91 l.length lc92), (.bool mn93)].toArray 44 (0, 0)), kU64.row ia89 ic90 ws, kWr.row la91 lc92 l] := hs120.front 5 (by simp)
                have hs122 : St B w [] w114 [kWr.row a106 c107 l, blk b68 (.cells [(.int .u8 ((ss.getD k2 (0, 0, 0)).1)), (.int .i64 ((ss.getD k2 (0, 0, 0)).2.1)), (.int .u64 ((ss.getD k2 (0, 0, 0)).2.2))].toArray 35 (0, 0)), viewA (ptr b25) ws l, blk b30 (.cells [(.slice ia89 ws.length ic90), (.slice la91 l.length lc92), (.bool mn93)].toArray 44 (0, 0)), kU64.row ia89 ic90 ws, kWr.row la91 lc92 l] := hs121.front 2 (by simp)
                have hs123 : St B w [] w114 [kWr.row la91 lc92 l, kWr.row a106 c107 l, blk b68 (.cells [(.int .u8 ((ss.getD k2 (0, 0, 0)).1)), (.int .i64 ((ss.getD k2 (0, 0, 0)).2.1)), (.int .u64 ((ss.getD k2 (0, 0, 0)).2.2))].toArray 35 (0, 0)), viewA (ptr b25) ws l, blk b30 (.cells [(.slice ia89 ws.length ic90), (.slice la91 l.length lc92), (.bool mn93)].toArray 44 (0, 0)), kU64.row ia89 ic90 ws] := hs122.front 5 (by simp)
                have hs124 : St B w [] w114 [kU64.row ia89 ic90 ws, kWr.row la91 lc92 l, kWr.row a106 c107 l, blk b68 (.cells [(.int .u8 ((ss.getD k2 (0, 0, 0)).1)), (.int .i64 ((ss.getD k2 (0, 0, 0)).2.1)), (.int .u64 ((ss.getD k2 (0, 0, 0)).2.2))].toArray 35 (0, 0)), viewA (ptr b25) ws l, blk b30 (.cells [(.slice ia89 ws.length ic90), (.slice la91 l.length lc92), (.bool mn93)].toArray 44 (0, 0))] := hs123.front 5 (by simp)
                have hs125 : St B w [] w114 [blk b30 (.cells [(.slice ia89 ws.length ic90), (.slice la91 l.length lc92), (.bool mn93)].toArray 44 (0, 0)), kU64.row ia89 ic90 ws, kWr.row la91 lc92 l, kWr.row a106 c107 l, blk b68 (.cells [(.int .u8 ((ss.getD k2 (0, 0, 0)).1)), (.int .i64 ((ss.getD k2 (0, 0, 0)).2.1)), (.int .u64 ((ss.getD k2 (0, 0, 0)).2.2))].toArray 35 (0, 0)), viewA (ptr b25) ws l] := hs124.front 5 (by simp)
                have hs126 : St B w [] w114 [refA (ptr b30) ws l, kWr.row a106 c107 l, blk b68 (.cells [(.int .u8 ((ss.getD k2 (0, 0, 0)).1)), (.int .i64 ((ss.getD k2 (0, 0, 0)).2.1)), (.int .u64 ((ss.getD k2 (0, 0, 0)).2.2))].toArray 35 (0, 0)), viewA (ptr b25) ws l] := ref_close (l := l) (ia := ia89) (ic := ic90) (la := la91) (lc := lc92) (many := mn93) hok95 hs125
                refine hK87 _ _ ?_
                clear hK87
                refine W.cond (!(decide (l = l))) (by kernel_rfl) (fun h127 => ?_) (fun h127 => ?_)
                ·
                  have h127p : ¬ (l = l) := of_decide_eq_false (bnot_true h127)
                  refine W.seq fun K128 hK128 => ?_
                  refine W.region ?_
                  refine ops_run 1 (by kernel_rfl) ?_
                  refine ops_done (by kernel_rfl) ?_
                  refine hK128 _ _ ?_
                  clear hK128
                  refine W.ret (ret_block (ret_seq (ret_seq (ret_block (ret_seq ?_)))))
                  exfalso; first | contradiction | omega
                ·
                  have h127p : l = l := of_decide_eq_true (bnot_false h127)
                  refine W.skip ?_
                  refine normal_block ?_
                  refine hK63 _ _ ?_
                  clear hK63
                  refine W.region ?_
                  refine ops_run 1 (by kernel_rfl) ?_
                  refine ops_val (v := .int .i64 (IntKind.i64.wrap ((k2 : Int) + 1))) (v' := .int .i64 ((k2 + 1 : Nat) : Int)) (by kernel_rfl) (congrArg (Value.int .i64) (wrap_i64 (by omega) (by omega))) ?_
                  refine ops_run 1 (by kernel_rfl) ?_
                  refine ops_done (by kernel_rfl) ?_
                  have hs129 : St B w [] w114 [viewA (ptr b25) ws l, refA (ptr b30) ws l, kWr.row a106 c107 l, blk b68 (.cells [(.int .u8 ((ss.getD k2 (0, 0, 0)).1)), (.int .i64 ((ss.getD k2 (0, 0, 0)).2.1)), (.int .u64 ((ss.getD k2 (0, 0, 0)).2.2))].toArray 35 (0, 0))] := hs126.front 3 (by simp)
                  have hs130 : St B w [] w114 [viewA (ptr b25) ws l, refA (ptr b30) ws l] := St.take (H := [viewA (ptr b25) ws l, refA (ptr b30) ws l]) hs129
                  exact ⟨(k2 + 1, l), ⟨slots_intro _ (by kernel_rfl), hs130, by omega⟩, by first | omega | (dsimp only; omega)⟩
              ·
                have h105p : ¬ ((k2 : Int).tmod 10 = 0) := of_decide_eq_false h105
                refine any_set 106 (v := .bool false) (eq_bool_of (by kernel_rfl) h105) ?_
                refine any_set 107 (v := .bool false) (eq_bool_of (by kernel_rfl) h105) ?_
                refine any_skip 7 (by kernel_rfl) rfl (by kernel_rfl) hs101 ?_
                refine any_skip 8 (by kernel_rfl) rfl (by kernel_rfl) hs101 ?_
                refine any_skip 9 (by kernel_rfl) rfl (by kernel_rfl) hs101 ?_
                refine any_skip 10 (by kernel_rfl) rfl (by kernel_rfl) hs101 ?_
                refine any_skip 11 (by kernel_rfl) rfl (by kernel_rfl) hs101 ?_
                refine any_skip 12 (by kernel_rfl) rfl (by kernel_rfl) hs101 ?_
                refine any_skip 13 (by kernel_rfl) rfl (by kernel_rfl) hs101 ?_
                refine any_skip 14 (by kernel_rfl) rfl (by kernel_rfl) hs101 ?_
                refine any_val (v := (.bool false)) (v' := (.bool false)) 15 (by kernel_rfl) (fun _ => by kernel_rfl) rfl hs101 ?_
                refine any_val (v := (.bool false)) (v' := (.bool false)) 16 (by kernel_rfl) (fun _ => by kernel_rfl) rfl hs101 ?_
                refine any_done (by kernel_rfl) ?_
                have hs131 : St B w [] w83.drew [refA (ptr b30) ws l, blk b68 (.cells [(.int .u8 ((ss.getD k2 (0, 0, 0)).1)), (.int .i64 ((ss.getD k2 (0, 0, 0)).2.1)), (.int .u64 ((ss.getD k2 (0, 0, 0)).2.2))].toArray 35 (0, 0)), viewA (ptr b25) ws l] := ref_close (l := l) (ia := ia89) (ic := ic90) (la := la91) (lc := lc92) (many := mn93) hok95 hs98
                refine hK87 _ _ ?_
                clear hK87
                refine W.cond_false false (by kernel_rfl) rfl ?_
                refine W.skip ?_
                refine normal_block ?_
                refine hK63 _ _ ?_
                clear hK63
                refine W.region ?_
                refine ops_run 1 (by kernel_rfl) ?_
                refine ops_val (v := .int .i64 (IntKind.i64.wrap ((k2 : Int) + 1))) (v' := .int .i64 ((k2 + 1 : Nat) : Int)) (by kernel_rfl) (congrArg (Value.int .i64) (wrap_i64 (by omega) (by omega))) ?_
                refine ops_run 1 (by kernel_rfl) ?_
                refine ops_done (by kernel_rfl) ?_
                have hs132 : St B w [] w83.drew [viewA (ptr b25) ws l, refA (ptr b30) ws l, blk b68 (.cells [(.int .u8 ((ss.getD k2 (0, 0, 0)).1)), (.int .i64 ((ss.getD k2 (0, 0, 0)).2.1)), (.int .u64 ((ss.getD k2 (0, 0, 0)).2.2))].toArray 35 (0, 0))] := hs131.front 2 (by simp)
                have hs133 : St B w [] w83.drew [viewA (ptr b25) ws l, refA (ptr b30) ws l] := St.take (H := [viewA (ptr b25) ws l, refA (ptr b30) ws l]) hs132
                exact ⟨(k2 + 1, l), ⟨slots_intro _ (by kernel_rfl), hs133, by omega⟩, by first | omega | (dsimp only; omega)⟩
          ·
            have h76p : ¬ (((ss.getD k2 (0, 0, 0)).1).tmod 5 = 3) := of_decide_eq_false h76
            refine W.seq fun K134 hK134 => ?_
            refine W.region ?_
            refine ops_run 2 (by kernel_rfl) ?_
            refine ops_done (by kernel_rfl) ?_
            refine hK134 _ _ ?_
            clear hK134
            refine W.cond (decide (((ss.getD k2 (0, 0, 0)).1).tmod 5 = 4)) (by kernel_rfl) (fun h135 => ?_) (fun h135 => ?_)
            ·
              have h135p : ((ss.getD k2 (0, 0, 0)).1).tmod 5 = 4 := of_decide_eq_true h135
              refine W.seq fun K136 hK136 => ?_
              refine W.region ?_
              refine ops_run 1 (by kernel_rfl) ?_
              have hs137 : St B w [] w69 [viewA (ptr b25) ws l, blk b68 (.cells [(.int .u8 ((ss.getD k2 (0, 0, 0)).1)), (.int .i64 ((ss.getD k2 (0, 0, 0)).2.1)), (.int .u64 ((ss.getD k2 (0, 0, 0)).2.2))].toArray 35 (0, 0)), refA (ptr b30) ws l] := hs71.front 1 (by simp)
              refine ops_call (pre := [viewA (ptr b25) ws l]) hs137 (by kernel_rfl) (drop_spec (p := (.pointer (some ⟨b25, 0, none⟩))) (img := ws) (l := l) B _) ?_
              rintro _ _ w138 ⟨rfl, rfl⟩ hs139
              have hs140 : St B w [] w138 [viewA (ptr b25) ws ([]), blk b68 (.cells [(.int .u8 ((ss.getD k2 (0, 0, 0)).1)), (.int .i64 ((ss.getD k2 (0, 0, 0)).2.1)), (.int .u64 ((ss.getD k2 (0, 0, 0)).2.2))].toArray 35 (0, 0)), refA (ptr b30) ws l] := hs139
              refine ops_done (by kernel_rfl) ?_
              refine hK136 _ _ ?_
              clear hK136
              have hs141 : St B w [] w138 [refA (ptr b30) ws l, viewA (ptr b25) ws ([]), blk b68 (.cells [(.int .u8 ((ss.getD k2 (0, 0, 0)).1)), (.int .i64 ((ss.getD k2 (0, 0, 0)).2.1)), (.int .u64 ((ss.getD k2 (0, 0, 0)).2.2))].toArray 35 (0, 0))] := hs140.front 2 (by simp)
              obtain ⟨⟨_, ia142, ic143, la144, lc145, mn146⟩, ⟨ex147, hok148⟩, hs149⟩ := St.open hs141
              have hs150 : St B w [] w138 [blk b30 (.cells [(.slice ia142 ws.length ic143), (.slice la144 l.length lc145), (.bool mn146)].toArray 44 (0, 0)), kU64.row ia142 ic143 ws, kWr.row la144 lc145 l, viewA (ptr b25) ws ([]), blk b68 (.cells [(.int .u8 ((ss.getD k2 (0, 0, 0)).1)), (.int .i64 ((ss.getD k2 (0, 0, 0)).2.1)), (.int .u64 ((ss.getD k2 (0, 0, 0)).2.2))].toArray 35 (0, 0))] := by cases ex147; exact hs149
              have := hok148.many
              refine W.region ?_
              refine ops_run 3 (by kernel_rfl) ?_
              refine ops_store (off := 1) (cs := [(.slice ia142 ws.length ic143), (.slice la144 l.length lc145), (.bool mn146)]) (vs := [(.slice none 0 0)]) hs150 (by kernel_rfl) (by simp) rfl (fun w151 hs152 => ?_)
              have hs153 : St B w [] w151 [blk b30 (.cells [(.slice ia142 ws.length ic143), (.slice none 0 0), (.bool mn146)].toArray 44 (0, 0)), kU64.row ia142 ic143 ws, kWr.row la144 lc145 l, viewA (ptr b25) ws ([]), blk b68 (.cells [(.int .u8 ((ss.getD k2 (0, 0, 0)).1)), (.int .i64 ((ss.getD k2 (0, 0, 0)).2.1)), (.int .u64 ((ss.getD k2 (0, 0, 0)).2.2))].toArray 35 (0, 0))] := hs152
              refine ops_done (by kernel_rfl) ?_
              have hs154 := St.knil kWr hs153
              have hs155 : St B w [] w151 [blk b68 (.cells [(.int .u8 ((ss.getD k2 (0, 0, 0)).1)), (.int .i64 ((ss.getD k2 (0, 0, 0)).2.1)), (.int .u64 ((ss.getD k2 (0, 0, 0)).2.2))].toArray 35 (0, 0)), kWr.row none 0 ([]), blk b30 (.cells [(.slice ia142 ws.length ic143), (.slice none 0 0), (.bool mn146)].toArray 44 (0, 0)), kU64.row ia142 ic143 ws, kWr.row la144 lc145 l, viewA (ptr b25) ws ([])] := hs154.front 5 (by simp)
              have hs156 : St B w [] w151 [viewA (ptr b25) ws ([]), blk b68 (.cells [(.int .u8 ((ss.getD k2 (0, 0, 0)).1)), (.int .i64 ((ss.getD k2 (0, 0, 0)).2.1)), (.int .u64 ((ss.getD k2 (0, 0, 0)).2.2))].toArray 35 (0, 0)), kWr.row none 0 ([]), blk b30 (.cells [(.slice ia142 ws.length ic143), (.slice none 0 0), (.bool mn146)].toArray 44 (0, 0)), kU64.row ia142 ic143 ws, kWr.row la144 lc145 l] := hs155.front 5 (by simp)
              have hs157 : St B w [] w151 [kWr.row la144 lc145 l, viewA (ptr b25) ws ([]), blk b68 (.cells [(.int .u8 ((ss.getD k2 (0, 0, 0)).1)), (.int .i64 ((ss.getD k2 (0, 0, 0)).2.1)), (.int .u64 ((ss.getD k2 (0, 0, 0)).2.2))].toArray 35 (0, 0)), kWr.row none 0 ([]), blk b30 (.cells [(.slice ia142 ws.length ic143), (.slice none 0 0), (.bool mn146)].toArray 44 (0, 0)), kU64.row ia142 ic143 ws] := hs156.front 5 (by simp)
              have hs158 : St B w [] w151 [kWr.row none 0 ([]), kWr.row la144 lc145 l, viewA (ptr b25) ws ([]), blk b68 (.cells [(.int .u8 ((ss.getD k2 (0, 0, 0)).1)), (.int .i64 ((ss.getD k2 (0, 0, 0)).2.1)), (.int .u64 ((ss.getD k2 (0, 0, 0)).2.2))].toArray 35 (0, 0)), blk b30 (.cells [(.slice ia142 ws.length ic143), (.slice none 0 0), (.bool mn146)].toArray 44 (0, 0)), kU64.row ia142 ic143 ws] := hs157.front 3 (by simp)
              have hs159 : St B w [] w151 [kU64.row ia142 ic143 ws, kWr.row none 0 ([]), kWr.row la144 lc145 l, viewA (ptr b25) ws ([]), blk b68 (.cells [(.int .u8 ((ss.getD k2 (0, 0, 0)).1)), (.int .i64 ((ss.getD k2 (0, 0, 0)).2.1)), (.int .u64 ((ss.getD k2 (0, 0, 0)).2.2))].toArray 35 (0, 0)), blk b30 (.cells [(.slice ia142 ws.length ic143), (.slice none 0 0), (.bool mn146)].toArray 44 (0, 0))] := hs158.front 5 (by simp)
              have hs160 : St B w [] w151 [blk b30 (.cells [(.slice ia142 ws.length ic143), (.slice none 0 0), (.bool mn146)].toArray 44 (0, 0)), kU64.row ia142 ic143 ws, kWr.row none 0 ([]), kWr.row la144 lc145 l, viewA (ptr b25) ws ([]), blk b68 (.cells [(.int .u8 ((ss.getD k2 (0, 0, 0)).1)), (.int .i64 ((ss.getD k2 (0, 0, 0)).2.1)), (.int .u64 ((ss.getD k2 (0, 0, 0)).2.2))].toArray 35 (0, 0))] := hs159.front 5 (by simp)
              have hs161 : St B w [] w151 [refA (ptr b30) ws ([]), kWr.row la144 lc145 l, viewA (ptr b25) ws ([]), blk b68 (.cells [(.int .u8 ((ss.getD k2 (0, 0, 0)).1)), (.int .i64 ((ss.getD k2 (0, 0, 0)).2.1)), (.int .u64 ((ss.getD k2 (0, 0, 0)).2.2))].toArray 35 (0, 0))] := ref_close (l := []) (ia := ia142) (ic := ic143) (la := none) (lc := 0) (many := mn146) (VOk.nil hok148.size) hs160
              refine normal_block ?_
              refine hK73 _ _ ?_
              clear hK73
              refine W.seq fun K162 hK162 => ?_
              obtain ⟨⟨_, ia163, ic164, la165, lc166, mn167⟩, ⟨ex168, hok169⟩, hs170⟩ := St.open hs161
              have hs171 : St B w [] w151 [blk b30 (.cells [(.slice ia163 ws.length ic164), (.slice la165 0 lc166), (.bool mn167)].toArray 44 (0, 0)), kU64.row ia163 ic164 ws, kWr.row la165 lc166 ([]), kWr.row la144 lc145 l, viewA (ptr b25) ws ([]), blk b68 (.cells [(.int .u8 ((ss.getD k2 (0, 0, 0)).1)), (.int .i64 ((ss.getD k2 (0, 0, 0)).2.1)), (.int .u64 ((ss.getD k2 (0, 0, 0)).2.2))].toArray 35 (0, 0))] := by cases ex168; exact hs170
              have := hok169.many
              have hs172 := hs171.drew
              have hs173 : St B w [] w151.drew [blk b68 (.cells [(.int .u8 ((ss.getD k2 (0, 0, 0)).1)), (.int .i64 ((ss.getD k2 (0, 0, 0)).2.1)), (.int .u64 ((ss.getD k2 (0, 0, 0)).2.2))].toArray 35 (0, 0)), blk b30 (.cells [(.slice ia163 ws.length ic164), (.slice la165 0 lc166), (.bool mn167)].toArray 44 (0, 0)), kU64.row ia163 ic164 ws, kWr.row la165 lc166 ([]), kWr.row la144 lc145 l, viewA (ptr b25) ws ([])] := hs172.front 5 (by simp)
              have hs174 : St B w [] w151.drew [blk b30 (.cells [(.slice ia163 ws.length ic164), (.slice la165 0 lc166), (.bool mn167)].toArray 44 (0, 0)), blk b68 (.cells [(.int .u8 ((ss.getD k2 (0, 0, 0)).1)), (.int .i64 ((ss.getD k2 (0, 0, 0)).2.1)), (.int .u64 ((ss.getD k2 (0, 0, 0)).2.2))].toArray 35 (0, 0)), kU64.row ia163 ic164 ws, kWr.row la165 lc166 ([]), kWr.row la144 lc145 l, viewA (ptr b25) ws ([])] := hs173.front 1 (by simp)
              have hs175 : St B w [] w151.drew [blk b30 (.cells [(.slice ia163 ws.length ic164), (.slice la165 0 lc166), (.bool mn167)].toArray 44 (0, 0)), blk b68 (.cells [(.int .u8 ((ss.getD k2 (0, 0, 0)).1)), (.int .i64 ((ss.getD k2 (0, 0, 0)).2.1)), (.int .u64 ((ss.getD k2 (0, 0, 0)).2.2))].toArray 35 (0, 0))] := St.take (H := [blk b30 (.cells [(.slice ia163 ws.length ic164), (.slice la165 0 lc166), (.bool mn167)].toArray 44 (0, 0)), blk b68 (.cells [(.int .u8 ((ss.getD k2 (0, 0, 0)).1)), (.int .i64 ((ss.getD k2 (0, 0, 0)).2.1)), (.int .u64 ((ss.getD k2 (0, 0, 0)).2.2))].toArray 35 (0, 0))]) hs174
              refine W.regionD (fun w_ => St B w [] w_ [blk b30 (.cells [(.slice ia163 ws.length ic164), (.slice la165 0 lc166), (.bool mn167)].toArray 44 (0, 0)), blk b68 (.cells [(.int .u8 ((ss.getD k2 (0, 0, 0)).1)), (.int .i64 ((ss.getD k2 (0, 0, 0)).2.1)), (.int .u64 ((ss.getD k2 (0, 0, 0)).2.2))].toArray 35 (0, 0))]) (by kernel_rfl) hs175 ?_
              refine any_val (v := (.bool true)) (v' := (.bool true)) 0 (by kernel_rfl) (fun _ => by kernel_rfl) rfl hs175 ?_
              refine any_val (v := (.bool false)) (v' := (.bool false)) 1 (by kernel_rfl) (fun _ => by kernel_rfl) rfl hs175 ?_
              refine any_val (v := (.bool false)) (v' := (.bool false)) 2 (by kernel_rfl) (fun _ => by kernel_rfl) rfl hs175 ?_
              refine any_val (v := (.int .i64 (k2 : Int))) (v' := (.int .i64 (k2 : Int))) 3 (by kernel_rfl) (fun _ => by kernel_rfl) rfl hs175 ?_
              refine any_val (v := (.int .i64 ((k2 : Int).tmod 10))) (v' := (.int .i64 ((k2 : Int).tmod 10))) 4 (by kernel_rfl) (fun _ => by kernel_rfl) rfl hs175 ?_
              refine any_val (v := (.bool (decide ((k2 : Int).tmod 10 = 0)))) (v' := (.bool (decide ((k2 : Int).tmod 10 = 0)))) 5 (by kernel_rfl) (fun _ => by kernel_rfl) rfl hs175 ?_
              refine any_val (v := (.bool (decide ((k2 : Int).tmod 10 = 0)))) (v' := (.bool (decide ((k2 : Int).tmod 10 = 0)))) 6 (by kernel_rfl) (fun _ => by kernel_rfl) rfl hs175 ?_
              rcases Bool.eq_false_or_eq_true (decide ((k2 : Int).tmod 10 = 0)) with h176 | h176
              ·
                have h176p : (k2 : Int).tmod 10 = 0 := of_decide_eq_true h176
                refine any_set 106 (v := .bool true) (eq_bool_of (by kernel_rfl) h176) ?_
                refine any_set 107 (v := .bool true) (eq_bool_of (by kernel_rfl) h176) ?_
                refine any_val (v := (.pointer (some ⟨b25, 0, none⟩))) (v' := (.pointer (some ⟨b25, 0, none⟩))) 7 (by kernel_rfl) (fun _ => by kernel_rfl) rfl hs175 ?_
                refine any_val (v := (.pointer (some ⟨b30, 0, none⟩))) (v' := (.pointer (some ⟨b30, 0, none⟩))) 9 (by kernel_rfl) (fun _ => by kernel_rfl) rfl hs175 ?_
                refine any_val (v := (.pointer (some ⟨b30, 0, none⟩))) (v' := (.pointer (some ⟨b30, 0, none⟩))) 10 (by kernel_rfl) (fun _ => by kernel_rfl) rfl hs175 ?_
                refine any_val (v := (.pointer (some ⟨b30, 1, none⟩))) (v' := (.pointer (some ⟨b30, 1, none⟩))) 11 (by kernel_rfl) (fun _ => by kernel_rfl) rfl hs175 ?_
                refine any_R 12 (by kernel_rfl) (fun _ hS_ => runs_load (ad := ⟨b30, 1, none⟩) (v := (.slice la165 0 lc166)) (by kernel_rfl) (hS_.cellAt 0 rfl rfl)) hs175 ?_
                refine any_step 8 (by kernel_rfl) (by kernel_rfl) ?_
                refine ops_call (pre := []) hs172 (by kernel_rfl) (writes_spec (hv := (hs172.entAt 4 rfl viewA_at)) B _) ?_
                rintro _ _ w179 ⟨a177, c178, rfl, rfl⟩ hs180
                have hs181 : St B w [] w179 [kWr.row a177 c178 ([]), blk b30 (.cells [(.slice ia163 ws.length ic164), (.slice la165 0 lc166), (.bool mn167)].toArray 44 (0, 0)), kU64.row ia163 ic164 ws, kWr.row la165 lc166 ([]), kWr.row la144 lc145 l, viewA (ptr b25) ws ([]), blk b68 (.cells [(.int .u8 ((ss.getD k2 (0, 0, 0)).1)), (.int .i64 ((ss.getD k2 (0, 0, 0)).2.1)), (.int .u64 ((ss.getD k2 (0, 0, 0)).2.2))].toArray 35 (0, 0))] := hs180
                have hs182 : St B w [] w179 [blk b68 (.cells [(.int .u8 ((ss.getD k2 (0, 0, 0)).1)), (.int .i64 ((ss.getD k2 (0, 0, 0)).2.1)), (.int .u64 ((ss.getD k2 (0, 0, 0)).2.2))].toArray 35 (0, 0)), kWr.row a177 c178 ([]), blk b30 (.cells [(.slice ia163 ws.length ic164), (.slice la165 0 lc166), (.bool mn167)].toArray 44 (0, 0)), kU64.row ia163 ic164 ws, kWr.row la165 lc166 ([]), kWr.row la144 lc145 l, viewA (ptr b25) ws ([])] := hs181.front 6 (by simp)
                have hs183 : St B w [] w179 [blk b30 (.cells [(.slice ia163 ws.length ic164), (.slice la165 0 lc166), (.bool mn167)].toArray 44 (0, 0)), blk b68 (.cells [(.int .u8 ((ss.getD k2 (0, 0, 0)).1)), (.int .i64 ((ss.getD k2 (0, 0, 0)).2.1)), (.int .u64 ((ss.getD k2 (0, 0, 0)).2.2))].toArray 35 (0, 0)), kWr.row a177 c178 ([]), kU64.row ia163 ic164 ws, kWr.row la165 lc166 ([]), kWr.row la144 lc145 l, viewA (ptr b25) ws ([])] := hs182.front 2 (by simp)
                have hs184 : St B w [] w179 [blk b30 (.cells [(.slice ia163 ws.length ic164), (.slice la165 0 lc166), (.bool mn167)].toArray 44 (0, 0)), blk b68 (.cells [(.int .u8 ((ss.getD k2 (0, 0, 0)).1)), (.int .i64 ((ss.getD k2 (0, 0, 0)).2.1)), (.int .u64 ((ss.getD k2 (0, 0, 0)).2.2))].toArray 35 (0, 0))] := St.take (H := [blk b30 (.cells [(.slice ia163 ws.length ic164), (.slice la165 0 lc166), (.bool mn167)].toArray 44 (0, 0)), blk b68 (.cells [(.int .u8 ((ss.getD k2 (0, 0, 0)).1)), (.int .i64 ((ss.getD k2 (0, 0, 0)).2.1)), (.int .u64 ((ss.getD k2 (0, 0, 0)).2.2))].toArray 35 (0, 0))]) hs183
                refine ops_done (by kernel_rfl) ⟨hs184, ?_⟩
                refine any_step 13 (by kernel_rfl) (by kernel_rfl) ?_
                refine ops_call (pre := []) hs181 (by kernel_rfl) (same05_spec (xs := []) (ys := []) (xc := c178) (yc := lc166) (n := 0) (m := 0) (hn := rfl) (hm := rfl) (hx := (St.kcells kWr hs181 0 rfl)) (hy := (St.kcells kWr hs181 3 rfl)) (hsz := (by decide)) B _) ?_
                rintro _ _ w185 ⟨rfl, rfl⟩ hs186
                have hs187 : St B w [] w185 [kWr.row a177 c178 ([]), blk b30 (.cells [(.slice ia163 ws.length ic164), (.slice la165 0 lc166), (.bool mn167)].toArray 44 (0, 0)), kU64.row ia163 ic164 ws, kWr.row la165 lc166 ([]), kWr.row la144 lc145 l, viewA (ptr b25) ws ([]), blk b68 (.cells [(.int .u8 ((ss.getD k2 (0, 0, 0)).1)), (.int .i64 ((ss.getD k2 (0, 0, 0)).2.1)), (.int .u64 ((ss.getD k2 (0, 0, 0)).2.2))].toArray 35 (0, 0))] := hs186
                have hs188 : St B w [] w185 [blk b68 (.cells [(.int .u8 ((ss.getD k2 (0, 0, 0)).1)), (.int .i64 ((ss.getD k2 (0, 0, 0)).2.1)), (.int .u64 ((ss.getD k2 (0, 0, 0)).2.2))].toArray 35 (0, 0)), kWr.row a177 c178 ([]), blk b30 (.cells [(.slice ia163 ws.length ic164), (.slice la165 0 lc166), (.bool mn167)].toArray 44 (0, 0)), kU64.row ia163 ic164 ws, kWr.row la165 lc166 ([]), kWr.row la144 lc145 l, viewA (ptr b25) ws ([])] := hs187.front 6 (by simp)
                have hs189 : St B w [] w185 [blk b30 (.cells [(.slice ia163 ws.length ic164), (.slice la165 0 lc166), (.bool mn167)].toArray 44 (0, 0)), blk b68 (.cells [(.int .u8 ((ss.getD k2 (0, 0, 0)).1)), (.int .i64 ((ss.getD k2 (0, 0, 0)).2.1)), (.int .u64 ((ss.getD k2 (0, 0, 0)).2.2))].toArray 35 (0, 0)), kWr.row a177 c178 ([]), kU64.row ia163 ic164 ws, kWr.row la165 lc166 ([]), kWr.row la144 lc145 l, viewA (ptr b25) ws ([])] := hs188.front 2 (by simp)
                have hs190 : St B w [] w185 [blk b30 (.cells [(.slice ia163 ws.length ic164), (.slice la165 0 lc166), (.bool mn167)].toArray 44 (0, 0)), blk b68 (.cells [(.int .u8 ((ss.getD k2 (0, 0, 0)).1)), (.int .i64 ((ss.getD k2 (0, 0, 0)).2.1)), (.int .u64 ((ss.getD k2 (0, 0, 0)).2.2))].toArray 35 (0, 0))] := St.take (H := [blk b30 (.cells [(.slice ia163 ws.length ic164), (.slice la165 0 lc166), (.bool mn167)].toArray 44 (0, 0)), blk b68 (.cells [(.int .u8 ((ss.getD k2 (0, 0, 0)).1)), (.int .i64 ((ss.getD k2 (0, 0, 0)).2.1)), (.int .u64 ((ss.getD k2 (0, 0, 0)).2.2))].toArray 35 (0, 0))]) hs189
                refine ops_done (by kernel_rfl) ⟨hs190, ?_⟩
                refine any_val (v := (.bool (!(decide (([] : List (Int × Int)) = ([])))))) (v' := (.bool (!(decide (([] : List (Int × Int)) = ([])))))) 14 (by kernel_rfl) (fun _ => by kernel_rfl) rfl hs190 ?_
                refine any_val (v := (.bool (!(decide (([] : List (Int × Int)) = ([])))))) (v' := (.bool (!(decide (([] : List (Int × Int)) = ([])))))) 15 (by kernel_rfl) (fun _ => by kernel_rfl) rfl hs190 ?_
                refine any_val (v := (.bool (!(decide (([] : List (Int × Int)) = ([])))))) (v' := (.bool (!(decide (([] : List (Int × Int)) = ([])))))) 16 (by kernel_rfl) (fun _ => by kernel_rfl) rfl hs190 ?_
                refine any_done (by kernel_rfl) ?_
                have hs191 : St B w [] w185 [blk b68 (.cells [(.int .u8 ((ss.getD k2 (0, 0, 0)).1)), (.int .i64 ((ss.getD k2 (0, 0, 0)).2.1)), (.int .u64 ((ss.getD k2 (0, 0, 0)).2.2))].toArray 35 (0, 0)), kWr.row a177 c178 ([]), blk b30 (.cells [(.slice ia163 ws.length ic164), (.slice la165 0 lc166), (.bool mn167)].toArray 44 (0, 0)), kU64.row ia163 ic164 ws, kWr.row la165 lc166 ([]), kWr.row la144 lc145 l, viewA (ptr b25) ws ([])] := hs187.front 6 (by simp)
                have hs192 : St B w [] w185 [viewA (ptr b25) ws ([]), blk b68 (.cells [(.int .u8 ((ss.getD k2 (0, 0, 0)).1)), (.int .i64 ((ss.getD k2 (0, 0, 0)).2.1)), (.int .u64 ((ss.getD k2 (0, 0, 0)).2.2))].toArray 35 (0, 0)), kWr.row a177 c178 ([]), blk b30 (.cells [(.slice ia163 ws.length ic164), (.slice la165 0 lc166), (.bool mn167)].toArray 44 (0, 0)), kU64.row ia163 ic164 ws, kWr.row la165 lc166 ([]), kWr.row la144 lc145 l] := hs191.front 6 (by simp)
                have hs193 : St B w [] w185 [kWr.row la144 lc145 l, viewA (ptr b25) ws ([]), blk b68 (.cells [(.int .u8 ((ss.getD k2 (0, 0, 0)).1)), (.int .i64 ((ss.getD k2 (0, 0, 0)).2.1)), (.int .u64 ((ss.getD k2 (0, 0, 0)).2.2))].toArray 35 (0, 0)), kWr.row a177 c178 ([]), blk b30 (.cells [(.slice ia163 ws.length ic164), (.slice la165 0 lc166), (.bool mn167)].toArray 44 (0, 0)), kU64.row ia163 ic164 ws, kWr.row la165 lc166 ([])] := hs192.front 6 (by simp)
                have hs194 : St B w [] w185 [kWr.row a177 c178 ([]), kWr.row la144 lc145 l, viewA (ptr b25) ws ([]), blk b68 (.cells [(.int .u8 ((ss.getD k2 (0, 0, 0)).1)), (.int .i64 ((ss.getD k2 (0, 0, 0)).2.1)), (.int .u64 ((ss.getD k2 (0, 0, 0)).2.2))].toArray 35 (0, 0)), blk b30 (.cells [(.slice ia163 ws.length ic164), (.slice la165 0 lc166), (.bool mn167)].toArray 44 (0, 0)), kU64.row ia163 ic164 ws, kWr.row la165 lc166 ([])] := hs193.front 3 (by simp)
                have hs195 : St B w [] w185 [kWr.row la165 lc166 ([]), kWr.row a177 c178 ([]), kWr.row la144 lc145 l, viewA (ptr b25) ws ([]), blk b68 (.cells [(.int .u8 ((ss.getD k2 (0, 0, 0)).1)), (.int .i64 ((ss.getD k2 (0, 0, 0)).2.1)), (.int .u64 ((ss.getD k2 (0, 0, 0)).2.2))].toArray 35 (0, 0)), blk b30 (.cells [(.slice ia163 ws.length ic164), (.slice la165 0 lc166), (.bool mn167)].toArray 44 (0, 0)), kU64.row ia163 ic164 ws] := hs194.front 6 (by simp)
                have hs196 : St B w [] w185 [kU64.row ia163 ic164 ws, kWr.row la165 lc166 ([]), kWr.row a177 c178 ([]), kWr.row la144 lc145 l, viewA (ptr b25) ws ([]), blk b68 (.cells [(.int .u8 ((ss.getD k2 (0, 0, 0)).1)), (.int .i64 ((ss.getD k2 (0, 0, 0)).2.1)), (.int .u64 ((ss.getD k2 (0, 0, 0)).2.2))].toArray 35 (0, 0)), blk b30 (.cells [(.slice ia163 ws.length ic164), (.slice la165 0 lc166), (.bool mn167)].toArray 44 (0, 0))] := hs195.front 6 (by simp)
                have hs197 : St B w [] w185 [blk b30 (.cells [(.slice ia163 ws.length ic164), (.slice la165 0 lc166), (.bool mn167)].toArray 44 (0, 0)), kU64.row ia163 ic164 ws, kWr.row la165 lc166 ([]), kWr.row a177 c178 ([]), kWr.row la144 lc145 l, viewA (ptr b25) ws ([]), blk b68 (.cells [(.int .u8 ((ss.getD k2 (0, 0, 0)).1)), (.int .i64 ((ss.getD k2 (0, 0, 0)).2.1)), (.int .u64 ((ss.getD k2 (0, 0, 0)).2.2))].toArray 35 (0, 0))] := hs196.front 6 (by simp)
                have hs198 : St B w [] w185 [refA (ptr b30) ws ([]), kWr.row a177 c178 ([]), kWr.row la144 lc145 l, viewA (ptr b25) ws ([]), blk b68 (.cells [(.int .u8 ((ss.getD k2 (0, 0, 0)).1)), (.int .i64 ((ss.getD k2 (0, 0, 0)).2.1)), (.int .u64 ((ss.getD k2 (0, 0, 0)).2.2))].toArray 35 (0, 0))] := ref_close (l := []) (ia := ia163) (ic := ic164) (la := la165) (lc := lc166) (many := mn167) hok169 hs197
                refine hK162 _ _ ?_
                clear hK162
                refine W.cond (!(decide (([] : List (Int × Int)) = ([])))) (by kernel_rfl) (fun h199 => ?_) (fun h199 => ?_)
                ·
                  have h199p : ¬ (([] : List (Int × Int)) = ([])) := of_decide_eq_false (bnot_true h199)
                  refine W.seq fun K200 hK200 => ?_
                  refine W.region ?_
                  refine ops_run 1 (by kernel_rfl) ?_
                  refine ops_done (by kernel_rfl) ?_
                  refine hK200 _ _ ?_
                  clear hK200
                  refine W.ret (ret_block (ret_seq (ret_seq (ret_block (ret_seq ?_)))))
                  exfalso; first | contradiction | omega
                ·
                  have h199p : ([] : List (Int × Int)) = ([]) := of_decide_eq_true (bnot_false h199)
                  refine W.skip ?_
                  refine normal_block ?_
                  refine hK63 _ _ ?_
                  clear hK63
                  refine W.region ?_
                  refine ops_run 1 (by kernel_rfl) ?_
                  refine ops_val (v := .int .i64 (IntKind.i64.wrap ((k2 : Int) + 1))) (v' := .int .i64 ((k2 + 1 : Nat) : Int)) (by kernel_rfl) (congrArg (Value.int .i64) (wrap_i64 (by omega) (by omega))) ?_
                  refine ops_run 1 (by kernel_rfl) ?_
                  refine ops_done (by kernel_rfl) ?_
                  have hs201 : St B w [] w185 [viewA (ptr b25) ws ([]), refA (ptr b30) ws ([]), kWr.row a177 c178 ([]), kWr.row la144 lc145 l, blk b68 (.cells [(.int .u8 ((ss.getD k2 (0, 0, 0)).1)), (.int .i64 ((ss.getD k2 (0, 0, 0)).2.1)), (.int .u64 ((ss.getD k2 (0, 0, 0)).2.2))].toArray 35 (0, 0))] := hs198.front 3 (by simp)
                  have hs202 : St B w [] w185 [viewA (ptr b25) ws ([]), refA (ptr b30) ws ([])] := St.take (H := [viewA (ptr b25) ws ([]), refA (ptr b30) ws ([])]) hs201
                  exact ⟨(k2 + 1, []), ⟨slots_intro _ (by kernel_rfl), hs202, by omega⟩, by first | omega | (dsimp only; omega)⟩
              ·
                have h176p : ¬ ((k2 : Int).tmod 10 = 0) := of_decide_eq_false h176
                refine any_set 106 (v := .bool false) (eq_bool_of (by kernel_rfl) h176) ?_
                refine any_set 107 (v := .bool false) (eq_bool_of (by kernel_rfl) h176) ?_
                refine any_skip 7 (by kernel_rfl) rfl (by kernel_rfl) hs175 ?_
                refine any_skip 8 (by kernel_rfl) rfl (by kernel_rfl) hs175 ?_
                refine any_skip 9 (by kernel_rfl) rfl (by kernel_rfl) hs175 ?_
                refine any_skip 10 (by kernel_rfl) rfl (by kernel_rfl) hs175 ?_
                refine any_skip 11 (by kernel_rfl) rfl (by kernel_rfl) hs175 ?_
                refine any_skip 12 (by kernel_rfl) rfl (by kernel_rfl) hs175 ?_
                refine any_skip 13 (by kernel_rfl) rfl (by kernel_rfl) hs175 ?_
                refine any_skip 14 (by kernel_rfl) rfl (by kernel_rfl) hs175 ?_
                refine any_val (v := (.bool false)) (v' := (.bool false)) 15 (by kernel_rfl) (fun _ => by kernel_rfl) rfl hs175 ?_
                refine any_val (v := (.bool false)) (v' := (.bool false)) 16 (by kernel_rfl) (fun _ => by kernel_rfl) rfl hs175 ?_
                refine any_done (by kernel_rfl) ?_
                have hs203 : St B w [] w151.drew [refA (ptr b30) ws ([]), kWr.row la144 lc145 l, viewA (ptr b25) ws ([]), blk b68 (.cells [(.int .u8 ((ss.getD k2 (0, 0, 0)).1)), (.int .i64 ((ss.getD k2 (0, 0, 0)).2.1)), (.int .u64 ((ss.getD k2 (0, 0, 0)).2.2))].toArray 35 (0, 0))] := ref_close (l := []) (ia := ia163) (ic := ic164) (la := la165) (lc := lc166) (many := mn167) hok169 hs172
                refine hK162 _ _ ?_
                clear hK162
                refine W.cond_false false (by kernel_rfl) rfl ?_
                refine W.skip ?_
                refine normal_block ?_
                refine hK63 _ _ ?_
                clear hK63
                refine W.region ?_
                refine ops_run 1 (by kernel_rfl) ?_
                refine ops_val (v := .int .i64 (IntKind.i64.wrap ((k2 : Int) + 1))) (v' := .int .i64 ((k2 + 1 : Nat) : Int)) (by kernel_rfl) (congrArg (Value.int .i64) (wrap_i64 (by omega) (by omega))) ?_
                refine ops_run 1 (by kernel_rfl) ?_
                refine ops_done (by kernel_rfl) ?_
                have hs204 : St B w [] w151.drew [viewA (ptr b25) ws ([]), refA (ptr b30) ws ([]), kWr.row la144 lc145 l, blk b68 (.cells [(.int .u8 ((ss.getD k2 (0, 0, 0)).1)), (.int .i64 ((ss.getD k2 (0, 0, 0)).2.1)), (.int .u64 ((ss.getD k2 (0, 0, 0)).2.2))].toArray 35 (0, 0))] := hs203.front 2 (by simp)
                have hs205 : St B w [] w151.drew [viewA (ptr b25) ws ([]), refA (ptr b30) ws ([])] := St.take (H := [viewA (ptr b25) ws ([]), refA (ptr b30) ws ([])]) hs204
                exact ⟨(k2 + 1, []), ⟨slots_intro _ (by kernel_rfl), hs205, by omega⟩, by first | omega | (dsimp only; omega)⟩
            ·
              have h135p : ¬ (((ss.getD k2 (0, 0, 0)).1).tmod 5 = 4) := of_decide_eq_false h135
              have hs206 := hs71.drew
              have hs207 : St B w [] w69.drew [blk b68 (.cells [(.int .u8 ((ss.getD k2 (0, 0, 0)).1)), (.int .i64 ((ss.getD k2 (0, 0, 0)).2.1)), (.int .u64 ((ss.getD k2 (0, 0, 0)).2.2))].toArray 35 (0, 0))] := St.take (H := [blk b68 (.cells [(.int .u8 ((ss.getD k2 (0, 0, 0)).1)), (.int .i64 ((ss.getD k2 (0, 0, 0)).2.1)), (.int .u64 ((ss.getD k2 (0, 0, 0)).2.2))].toArray 35 (0, 0))]) hs206
              refine W.regionD (fun w_ => St B w [] w_ [blk b68 (.cells [(.int .u8 ((ss.getD k2 (0, 0, 0)).1)), (.int .i64 ((ss.getD k2 (0, 0, 0)).2.1)), (.int .u64 ((ss.getD k2 (0, 0, 0)).2.2))].toArray 35 (0, 0))]) (by kernel_rfl) hs207 ?_
              refine any_val (v := (.pointer (some ⟨b25, 0, none⟩))) (v' := (.pointer (some ⟨b25, 0, none⟩))) 0 (by kernel_rfl) (fun _ => by kernel_rfl) rfl hs207 ?_
              refine any_val (v := (.pointer (some ⟨b68, 1, none⟩))) (v' := (.pointer (some ⟨b68, 1, none⟩))) 1 (by kernel_rfl) (fun _ => by kernel_rfl) rfl hs207 ?_
              refine any_R 2 (by kernel_rfl) (fun _ hS_ => runs_load (ad := ⟨b68, 1, none⟩) (v := (.int .i64 ((ss.getD k2 (0, 0, 0)).2.1))) (by kernel_rfl) (hS_.cellAt 0 rfl rfl)) hs207 ?_
              refine any_val (v := (.pointer (some ⟨b68, 2, none⟩))) (v' := (.pointer (some ⟨b68, 2, none⟩))) 3 (by kernel_rfl) (fun _ => by kernel_rfl) rfl hs207 ?_
              refine any_R 4 (by kernel_rfl) (fun _ hS_ => runs_load (ad := ⟨b68, 2, none⟩) (v := (.int .u64 ((ss.getD k2 (0, 0, 0)).2.2))) (by kernel_rfl) (hS_.cellAt 0 rfl rfl)) hs207 ?_
              refine any_val (v := (.pointer (some ⟨b30, 0, none⟩))) (v' := (.pointer (some ⟨b30, 0, none⟩))) 6 (by kernel_rfl) (fun _ => by kernel_rfl) rfl hs207 ?_
              refine any_val (v := (.pointer (some ⟨b68, 1, none⟩))) (v' := (.pointer (some ⟨b68, 1, none⟩))) 7 (by kernel_rfl) (fun _ => by kernel_rfl) rfl hs207 ?_
              refine any_R 8 (by kernel_rfl) (fun _ hS_ => runs_load (ad := ⟨b68, 1, none⟩) (v := (.int .i64 ((ss.getD k2 (0, 0, 0)).2.1))) (by kernel_rfl) (hS_.cellAt 0 rfl rfl)) hs207 ?_
              refine any_val (v := (.pointer (some ⟨b68, 2, none⟩))) (v' := (.pointer (some ⟨b68, 2, none⟩))) 9 (by kernel_rfl) (fun _ => by kernel_rfl) rfl hs207 ?_
              refine any_R 10 (by kernel_rfl) (fun _ hS_ => runs_load (ad := ⟨b68, 2, none⟩) (v := (.int .u64 ((ss.getD k2 (0, 0, 0)).2.2))) (by kernel_rfl) (hS_.cellAt 0 rfl rfl)) hs207 ?_
              refine any_step 5 (by kernel_rfl) (by kernel_rfl) ?_
              have hs208 : St B w [] w69.drew [viewA (ptr b25) ws l, blk b68 (.cells [(.int .u8 ((ss.getD k2 (0, 0, 0)).1)), (.int .i64 ((ss.getD k2 (0, 0, 0)).2.1)), (.int .u64 ((ss.getD k2 (0, 0, 0)).2.2))].toArray 35 (0, 0)), refA (ptr b30) ws l] := hs206.front 1 (by simp)
              refine ops_call (pre := [viewA (ptr b25) ws l]) hs208 (by kernel_rfl) (put_spec (p := (.pointer (some ⟨b25, 0, none⟩))) (img := ws) (l := l) (at_ := (ss.getD k2 (0, 0, 0)).2.1) (x_ := (ss.getD k2 (0, 0, 0)).2.2) B _) ?_
              rintro _ _ w209 ⟨rfl, rfl⟩ hs210
              have hs211 : St B w [] w209 [viewA (ptr b25) ws ((vput ws l ((ss.getD k2 (0, 0, 0)).2.1) ((ss.getD k2 (0, 0, 0)).2.2)).2), blk b68 (.cells [(.int .u8 ((ss.getD k2 (0, 0, 0)).1)), (.int .i64 ((ss.getD k2 (0, 0, 0)).2.1)), (.int .u64 ((ss.getD k2 (0, 0, 0)).2.2))].toArray 35 (0, 0)), refA (ptr b30) ws l] := hs210
              have hs212 : St B w [] w209 [blk b68 (.cells [(.int .u8 ((ss.getD k2 (0, 0, 0)).1)), (.int .i64 ((ss.getD k2 (0, 0, 0)).2.1)), (.int .u64 ((ss.getD k2 (0, 0, 0)).2.2))].toArray 35 (0, 0)), viewA (ptr b25) ws ((vput ws l ((ss.getD k2 (0, 0, 0)).2.1) ((ss.getD k2 (0, 0, 0)).2.2)).2), refA (ptr b30) ws l] := hs211.front 1 (by simp)
              have hs213 : St B w [] w209 [blk b68 (.cells [(.int .u8 ((ss.getD k2 (0, 0, 0)).1)), (.int .i64 ((ss.getD k2 (0, 0, 0)).2.1)), (.int .u64 ((ss.getD k2 (0, 0, 0)).2.2))].toArray 35 (0, 0))] := St.take (H := [blk b68 (.cells [(.int .u8 ((ss.getD k2 (0, 0, 0)).1)), (.int .i64 ((ss.getD k2 (0, 0, 0)).2.1)), (.int .u64 ((ss.getD k2 (0, 0, 0)).2.2))].toArray 35 (0, 0))]) hs212
              refine ops_done (by kernel_rfl) ⟨hs213, ?_⟩
              refine any_step 11 (by kernel_rfl) (by kernel_rfl) ?_
              have hs214 : St B w [] w209 [refA (ptr b30) ws l, viewA (ptr b25) ws ((vput ws l ((ss.getD k2 (0, 0, 0)).2.1) ((ss.getD k2 (0, 0, 0)).2.2)).2), blk b68 (.cells [(.int .u8 ((ss.getD k2 (0, 0, 0)).1)), (.int .i64 ((ss.getD k2 (0, 0, 0)).2.1)), (.int .u64 ((ss.getD k2 (0, 0, 0)).2.2))].toArray 35 (0, 0))] := hs211.front 2 (by simp)
              refine ops_call (pre := [refA (ptr b30) ws l]) hs214 (by kernel_rfl) (rput_spec (p := (.pointer (some ⟨b30, 0, none⟩))) (img := ws) (l := l) (at_ := (ss.getD k2 (0, 0, 0)).2.1) (x_ := (ss.getD k2 (0, 0, 0)).2.2) B _) ?_
              rintro _ _ w215 ⟨rfl, rfl⟩ hs216
              have hs217 : St B w [] w215 [refA (ptr b30) ws ((vput ws l ((ss.getD k2 (0, 0, 0)).2.1) ((ss.getD k2 (0, 0, 0)).2.2)).2), viewA (ptr b25) ws ((vput ws l ((ss.getD k2 (0, 0, 0)).2.1) ((ss.getD k2 (0, 0, 0)).2.2)).2), blk b68 (.cells [(.int .u8 ((ss.getD k2 (0, 0, 0)).1)), (.int .i64 ((ss.getD k2 (0, 0, 0)).2.1)), (.int .u64 ((ss.getD k2 (0, 0, 0)).2.2))].toArray 35 (0, 0))] := hs216
              have hs218 : St B w [] w215 [blk b68 (.cells [(.int .u8 ((ss.getD k2 (0, 0, 0)).1)), (.int .i64 ((ss.getD k2 (0, 0, 0)).2.1)), (.int .u64 ((ss.getD k2 (0, 0, 0)).2.2))].toArray 35 (0, 0)), refA (ptr b30) ws ((vput ws l ((ss.getD k2 (0, 0, 0)).2.1) ((ss.getD k2 (0, 0, 0)).2.2)).2), viewA (ptr b25) ws ((vput ws l ((ss.getD k2 (0, 0, 0)).2.1) ((ss.getD k2 (0, 0, 0)).2.2)).2)] := hs217.front 2 (by simp)
              have hs219 : St B w [] w215 [blk b68 (.cells [(.int .u8 ((ss.getD k2 (0, 0, 0)).1)), (.int .i64 ((ss.getD k2 (0, 0, 0)).2.1)), (.int .u64 ((ss.getD k2 (0, 0, 0)).2.2))].toArray 35 (0, 0))] := St.take (H := [blk b68 (.cells [(.int .u8 ((ss.getD k2 (0, 0, 0)).1)), (.int .i64 ((ss.getD k2 (0, 0, 0)).2.1)), (.int .u64 ((ss.getD k2 (0, 0, 0)).2.2))].toArray 35 (0, 0))]) hs218
              refine ops_done (by kernel_rfl) ⟨hs219, ?_⟩
              refine any_val (v := (.bool (decide ((vput ws l ((ss.getD k2 (0, 0, 0)).2.1) ((ss.getD k2 (0, 0, 0)).2.2)).1 = (vput ws l ((ss.getD k2 (0, 0, 0)).2.1) ((ss.getD k2 (0, 0, 0)).2.2)).1)))) (v' := (.bool (decide ((vput ws l ((ss.getD k2 (0, 0, 0)).2.1) ((ss.getD k2 (0, 0, 0)).2.2)).1 = (vput ws l ((ss.getD k2 (0, 0, 0)).2.1) ((ss.getD k2 (0, 0, 0)).2.2)).1)))) 12 (by kernel_rfl) (fun _ => by kernel_rfl) rfl hs219 ?_
              refine any_val (v := (.bool (decide ((vput ws l ((ss.getD k2 (0, 0, 0)).2.1) ((ss.getD k2 (0, 0, 0)).2.2)).1 = (vput ws l ((ss.getD k2 (0, 0, 0)).2.1) ((ss.getD k2 (0, 0, 0)).2.2)).1)))) (v' := (.bool (decide ((vput ws l ((ss.getD k2 (0, 0, 0)).2.1) ((ss.getD k2 (0, 0, 0)).2.2)).1 = (vput ws l ((ss.getD k2 (0, 0, 0)).2.1) ((ss.getD k2 (0, 0, 0)).2.2)).1)))) 13 (by kernel_rfl) (fun _ => by kernel_rfl) rfl hs219 ?_
              rcases Bool.eq_false_or_eq_true (decide ((vput ws l ((ss.getD k2 (0, 0, 0)).2.1) ((ss.getD k2 (0, 0, 0)).2.2)).1 = (vput ws l ((ss.getD k2 (0, 0, 0)).2.1) ((ss.getD k2 (0, 0, 0)).2.2)).1)) with h220 | h220
              ·
                have h220p : (vput ws l ((ss.getD k2 (0, 0, 0)).2.1) ((ss.getD k2 (0, 0, 0)).2.2)).1 = (vput ws l ((ss.getD k2 (0, 0, 0)).2.1) ((ss.getD k2 (0, 0, 0)).2.2)).1 := of_decide_eq_true h220
                refine any_set 71 (v := .bool true) (eq_bool_of (by kernel_rfl) h220) ?_
                refine any_set 72 (v := .bool true) (eq_bool_of (by kernel_rfl) h220) ?_
                refine any_val (v := (.pointer (some ⟨b25, 0, none⟩))) (v' := (.pointer (some ⟨b25, 0, none⟩))) 14 (by kernel_rfl) (fun _ => by kernel_rfl) rfl hs219 ?_
                refine any_val (v := (.pointer (some ⟨b68, 1, none⟩))) (v' := (.pointer (some ⟨b68, 1, none⟩))) 15 (by kernel_rfl) (fun _ => by kernel_rfl) rfl hs219 ?_
                refine any_R 16 (by kernel_rfl) (fun _ hS_ => runs_load (ad := ⟨b68, 1, none⟩) (v := (.int .i64 ((ss.getD k2 (0, 0, 0)).2.1))) (by kernel_rfl) (hS_.cellAt 0 rfl rfl)) hs219 ?_
                refine any_val (v := (.pointer (some ⟨b30, 0, none⟩))) (v' := (.pointer (some ⟨b30, 0, none⟩))) 18 (by kernel_rfl) (fun _ => by kernel_rfl) rfl hs219 ?_
                refine any_val (v := (.pointer (some ⟨b68, 1, none⟩))) (v' := (.pointer (some ⟨b68, 1, none⟩))) 19 (by kernel_rfl) (fun _ => by kernel_rfl) rfl hs219 ?_
                refine any_R 20 (by kernel_rfl) (fun _ hS_ => runs_load (ad := ⟨b68, 1, none⟩) (v := (.int .i64 ((ss.getD k2 (0, 0, 0)).2.1))) (by kernel_rfl) (hS_.cellAt 0 rfl rfl)) hs219 ?_
                refine any_step 17 (by kernel_rfl) (by kernel_rfl) ?_
                refine ops_call (pre := []) hs217 (by kernel_rfl) (get_spec (at_ := (ss.getD k2 (0, 0, 0)).2.1) (hv := (hs217.entAt 1 rfl viewA_at)) B _) ?_
                rintro _ _ w221 ⟨rfl, rfl⟩ hs222
                have hs223 : St B w [] w221 [refA (ptr b30) ws ((vput ws l ((ss.getD k2 (0, 0, 0)).2.1) ((ss.getD k2 (0, 0, 0)).2.2)).2), viewA (ptr b25) ws ((vput ws l ((ss.getD k2 (0, 0, 0)).2.1) ((ss.getD k2 (0, 0, 0)).2.2)).2), blk b68 (.cells [(.int .u8 ((ss.getD k2 (0, 0, 0)).1)), (.int .i64 ((ss.getD k2 (0, 0, 0)).2.1)), (.int .u64 ((ss.getD k2 (0, 0, 0)).2.2))].toArray 35 (0, 0))] := hs222
                have hs224 : St B w [] w221 [blk b68 (.cells [(.int .u8 ((ss.getD k2 (0, 0, 0)).1)), (.int .i64 ((ss.getD k2 (0, 0, 0)).2.1)), (.int .u64 ((ss.getD k2 (0, 0, 0)).2.2))].toArray 35 (0, 0)), refA (ptr b30) ws ((vput ws l ((ss.getD k2 (0, 0, 0)).2.1) ((ss.getD k2 (0, 0, 0)).2.2)).2), viewA (ptr b25) ws ((vput ws l ((ss.getD k2 (0, 0, 0)).2.1) ((ss.getD k2 (0, 0, 0)).2.2)).2)] := hs223.front 2 (by simp)
                have hs225 : St B w [] w221 [blk b68 (.cells [(.int .u8 ((ss.getD k2 (0, 0, 0)).1)), (.int .i64 ((ss.getD k2 (0, 0, 0)).2.1)), (.int .u64 ((ss.getD k2 (0, 0, 0)).2.2))].toArray 35 (0, 0))] := St.take (H := [blk b68 (.cells [(.int .u8 ((ss.getD k2 (0, 0, 0)).1)), (.int .i64 ((ss.getD k2 (0, 0, 0)).2.1)), (.int .u64 ((ss.getD k2 (0, 0, 0)).2.2))].toArray 35 (0, 0))]) hs224
                refine ops_done (by kernel_rfl) ⟨hs225, ?_⟩
                refine any_step 21 (by kernel_rfl) (by kernel_rfl) ?_
                refine ops_call (pre := []) hs223 (by kernel_rfl) (rget_spec (at_ := (ss.getD k2 (0, 0, 0)).2.1) (hv := (hs223.entAt 0 rfl refA_at)) B _) ?_
                rintro _ _ w226 ⟨rfl, rfl⟩ hs227
                have hs228 : St B w [] w226 [refA (ptr b30) ws ((vput ws l ((ss.getD k2 (0, 0, 0)).2.1) ((ss.getD k2 (0, 0, 0)).2.2)).2), viewA (ptr b25) ws ((vput ws l ((ss.getD k2 (0, 0, 0)).2.1) ((ss.getD k2 (0, 0, 0)).2.2)).2), blk b68 (.cells [(.int .u8 ((ss.getD k2 (0, 0, 0)).1)), (.int .i64 ((ss.getD k2 (0, 0, 0)).2.1)), (.int .u64 ((ss.getD k2 (0, 0, 0)).2.2))].toArray 35 (0, 0))] := hs227
                have hs229 : St B w [] w226 [blk b68 (.cells [(.int .u8 ((ss.getD k2 (0, 0, 0)).1)), (.int .i64 ((ss.getD k2 (0, 0, 0)).2.1)), (.int .u64 ((ss.getD k2 (0, 0, 0)).2.2))].toArray 35 (0, 0)), refA (ptr b30) ws ((vput ws l ((ss.getD k2 (0, 0, 0)).2.1) ((ss.getD k2 (0, 0, 0)).2.2)).2), viewA (ptr b25) ws ((vput ws l ((ss.getD k2 (0, 0, 0)).2.1) ((ss.getD k2 (0, 0, 0)).2.2)).2)] := hs228.front 2 (by simp)
                have hs230 : St B w [] w226 [blk b68 (.cells [(.int .u8 ((ss.getD k2 (0, 0, 0)).1)), (.int .i64 ((ss.getD k2 (0, 0, 0)).2.1)), (.int .u64 ((ss.getD k2 (0, 0, 0)).2.2))].toArray 35 (0, 0))] := St.take (H := [blk b68 (.cells [(.int .u8 ((ss.getD k2 (0, 0, 0)).1)), (.int .i64 ((ss.getD k2 (0, 0, 0)).2.1)), (.int .u64 ((ss.getD k2 (0, 0, 0)).2.2))].toArray 35 (0, 0))]) hs229
                refine ops_done (by kernel_rfl) ⟨hs230, ?_⟩
                refine any_val (v := (.bool (decide ((vget ws ((vput ws l ((ss.getD k2 (0, 0, 0)).2.1) ((ss.getD k2 (0, 0, 0)).2.2)).2) ((ss.getD k2 (0, 0, 0)).2.1)) = (vget ws ((vput ws l ((ss.getD k2 (0, 0, 0)).2.1) ((ss.getD k2 (0, 0, 0)).2.2)).2) ((ss.getD k2 (0, 0, 0)).2.1)))))) (v' := (.bool (decide ((vget ws ((vput ws l ((ss.getD k2 (0, 0, 0)).2.1) ((ss.getD k2 (0, 0, 0)).2.2)).2) ((ss.getD k2 (0, 0, 0)).2.1)) = (vget ws ((vput ws l ((ss.getD k2 (0, 0, 0)).2.1) ((ss.getD k2 (0, 0, 0)).2.2)).2) ((ss.getD k2 (0, 0, 0)).2.1)))))) 22 (by kernel_rfl) (fun _ => by kernel_rfl) rfl hs230 ?_
                refine any_val (v := (.bool (decide ((vget ws ((vput ws l ((ss.getD k2 (0, 0, 0)).2.1) ((ss.getD k2 (0, 0, 0)).2.2)).2) ((ss.getD k2 (0, 0, 0)).2.1)) = (vget ws ((vput ws l ((ss.getD k2 (0, 0, 0)).2.1) ((ss.getD k2 (0, 0, 0)).2.2)).2) ((ss.getD k2 (0, 0, 0)).2.1)))))) (v' := (.bool (decide ((vget ws ((vput ws l ((ss.getD k2 (0, 0, 0)).2.1) ((ss.getD k2 (0, 0, 0)).2.2)).2) ((ss.getD k2 (0, 0, 0)).2.1)) = (vget ws ((vput ws l ((ss.getD k2 (0, 0, 0)).2.1) ((ss.getD k2 (0, 0, 0)).2.2)).2) ((ss.getD k2 (0, 0, 0)).2.1)))))) 23 (by kernel_rfl) (fun _ => by kernel_rfl) rfl hs230 ?_
                refine any_val (v := (.bool (decide ((vget ws ((vput ws l ((ss.getD k2 (0, 0, 0)).2.1) ((ss.getD k2 (0, 0, 0)).2.2)).2) ((ss.getD k2 (0, 0, 0)).2.1)) = (vget ws ((vput ws l ((ss.getD k2 (0, 0, 0)).2.1) ((ss.getD k2 (0, 0, 0)).2.2)).2) ((ss.getD k2 (0, 0, 0)).2.1)))))) (v' := (.bool (decide ((vget ws ((vput ws l ((ss.getD k2 (0, 0, 0)).2.1) ((ss.getD k2 (0, 0, 0)).2.2)).2) ((ss.getD k2 (0, 0, 0)).2.1)) = (vget ws ((vput ws l ((ss.getD k2 (0, 0, 0)).2.1) ((ss.getD k2 (0, 0, 0)).2.2)).2) ((ss.getD k2 (0, 0, 0)).2.1)))))) 24 (by kernel_rfl) (fun _ => by kernel_rfl) rfl hs230 ?_
                refine any_done (by kernel_rfl) ?_
                refine normal_block ?_
                refine hK73 _ _ ?_
                clear hK73
                refine W.seq fun K231 hK231 => ?_
                obtain ⟨⟨_, ia232, ic233, la234, lc235, mn236⟩, ⟨ex237, hok238⟩, hs239⟩ := St.open hs228
                have hs240 : St B w [] w226 [blk b30 (.cells [(.slice ia232 ws.length ic233), (.slice la234 (((vput ws l ((ss.getD k2 (0, 0, 0)).2.1) ((ss.getD k2 (0, 0, 0)).2.2)).2).length) lc235), (.bool mn236)].toArray 44 (0, 0)), kU64.row ia232 ic233 ws, kWr.row la234 lc235 ((vput ws l ((ss.getD k2 (0, 0, 0)).2.1) ((ss.getD k2 (0, 0, 0)).2.2)).2), viewA (ptr b25) ws ((vput ws l ((ss.getD k2 (0, 0, 0)).2.1) ((ss.getD k2 (0, 0, 0)).2.2)).2), blk b68 (.cells [(.int .u8 ((ss.getD k2 (0, 0, 0)).1)), (.int .i64 ((ss.getD k2 (0, 0, 0)).2.1)), (.int .u64 ((ss.getD k2 (0, 0, 0)).2.2))].toArray 35 (0, 0))] := by cases ex237; exact hs239
                have := hok238.many
                have hs241 := hs240.drew
                have hs242 : St B w [] w226.drew [blk b68 (.cells [(.int .u8 ((ss.getD k2 (0, 0, 0)).1)), (.int .i64 ((ss.getD k2 (0, 0, 0)).2.1)), (.int .u64 ((ss.getD k2 (0, 0, 0)).2.2))].toArray 35 (0, 0)), blk b30 (.cells [(.slice ia232 ws.length ic233), (.slice la234 (((vput ws l ((ss.getD k2 (0, 0, 0)).2.1) ((ss.getD k2 (0, 0, 0)).2.2)).2).length) lc235), (.bool mn236)].toArray 44 (0, 0)), kU64.row ia232 ic233 ws, kWr.row la234 lc235 ((vput ws l ((ss.getD k2 (0, 0, 0)).2.1) ((ss.getD k2 (0, 0, 0)).2.2)).2), viewA (ptr b25) ws ((vput ws l ((ss.getD k2 (0, 0, 0)).2.1) ((ss.getD k2 (0, 0, 0)).2.2)).2)] := hs241.front 4 (by simp)
                have hs243 : St B w [] w226.drew [blk b30 (.cells [(.slice ia232 ws.length ic233), (.slice la234 (((vput ws l ((ss.getD k2 (0, 0, 0)).2.1) ((ss.getD k2 (0, 0, 0)).2.2)).2).length) lc235), (.bool mn236)].toArray 44 (0, 0)), blk b68 (.cells [(.int .u8 ((ss.getD k2 (0, 0, 0)).1)), (.int .i64 ((ss.getD k2 (0, 0, 0)).2.1)), (.int .u64 ((ss.getD k2 (0, 0, 0)).2.2))].toArray 35 (0, 0)), kU64.row ia232 ic233 ws, kWr.row la234 lc235 ((vput ws l ((ss.getD k2 (0, 0, 0)).2.1) ((ss.getD k2 (0, 0, 0)).2.2)).2), viewA (ptr b25) ws ((vput ws l ((ss.getD k2 (0, 0, 0)).2.1) ((ss.getD k2 (0, 0, 0)).2.2)).2)] := hs242.front 1 (by simp)
                have hs244 : St B w [] w226.drew [blk b30 (.cells [(.slice ia232 ws.length ic233), (.slice la234 (((vput ws l ((ss.getD k2 (0, 0, 0)).2.1) ((ss.getD k2 (0, 0, 0)).2.2)).2).length) lc235), (.bool mn236)].toArray 44 (0, 0)), blk b68 (.cells [(.int .u8 ((ss.getD k2 (0, 0, 0)).1)), (.int .i64 ((ss.getD k2 (0, 0, 0)).2.1)), (.int .u64 ((ss.getD k2 (0, 0, 0)).2.2))].toArray 35 (0, 0))] := St.take (H := [blk b30 (.cells [(.slice ia232 ws.length ic233), (.slice la234 (((vput ws l ((ss.getD k2 (0, 0, 0)).2.1) ((ss.getD k2 (0, 0, 0)).2.2)).2).length) lc235), (.bool mn236)].toArray 44 (0, 0)), blk b68 (.cells [(.int .u8 ((ss.getD k2 (0, 0, 0)).1)), (.int .i64 ((ss.getD k2 (0, 0, 0)).2.1)), (.int .u64 ((ss.getD k2 (0, 0, 0)).2.2))].toArray 35 (0, 0))]) hs243
                refine W.regionD (fun w_ => St B w [] w_ [blk b30 (.cells [(.slice ia232 ws.length ic233), (.slice la234 (((vput ws l ((ss.getD k2 (0, 0, 0)).2.1) ((ss.getD k2 (0, 0, 0)).2.2)).2).length) lc235), (.bool mn236)].toArray 44 (0, 0)), blk b68 (.cells [(.int .u8 ((ss.getD k2 (0, 0, 0)).1)), (.int .i64 ((ss.getD k2 (0, 0, 0)).2.1)), (.int .u64 ((ss.getD k2 (0, 0, 0)).2.2))].toArray 35 (0, 0))]) (by kernel_rfl) hs244 ?_
                refine any_val (v := (.bool (decide ((vget ws ((vput ws l ((ss.getD k2 (0, 0, 0)).2.1) ((ss.getD k2 (0, 0, 0)).2.2)).2) ((ss.getD k2 (0, 0, 0)).2.1)) = (vget ws ((vput ws l ((ss.getD k2 (0, 0, 0)).2.1) ((ss.getD k2 (0, 0, 0)).2.2)).2) ((ss.getD k2 (0, 0, 0)).2.1)))))) (v' := (.bool (decide ((vget ws ((vput ws l ((ss.getD k2 (0, 0, 0)).2.1) ((ss.getD k2 (0, 0, 0)).2.2)).2) ((ss.getD k2 (0, 0, 0)).2.1)) = (vget ws ((vput ws l ((ss.getD k2 (0, 0, 0)).2.1) ((ss.getD k2 (0, 0, 0)).2.2)).2) ((ss.getD k2 (0, 0, 0)).2.1)))))) 0 (by kernel_rfl) (fun _ => by kernel_rfl) rfl hs244 ?_
                refine any_val (v := (.bool (!(decide ((vget ws ((vput ws l ((ss.getD k2 (0, 0, 0)).2.1) ((ss.getD k2 (0, 0, 0)).2.2)).2) ((ss.getD k2 (0, 0, 0)).2.1)) = (vget ws ((vput ws l ((ss.getD k2 (0, 0, 0)).2.1) ((ss.getD k2 (0, 0, 0)).2.2)).2) ((ss.getD k2 (0, 0, 0)).2.1))))))) (v' := (.bool (!(decide ((vget ws ((vput ws l ((ss.getD k2 (0, 0, 0)).2.1) ((ss.getD k2 (0, 0, 0)).2.2)).2) ((ss.getD k2 (0, 0, 0)).2.1)) = (vget ws ((vput ws l ((ss.getD k2 (0, 0, 0)).2.1) ((ss.getD k2 (0, 0, 0)).2.2)).2) ((ss.getD k2 (0, 0, 0)).2.1))))))) 1 (by kernel_rfl) (fun _ => by kernel_rfl) rfl hs244 ?_
                refine any_val (v := (.bool (!(decide ((vget ws ((vput ws l ((ss.getD k2 (0, 0, 0)).2.1) ((ss.getD k2 (0, 0, 0)).2.2)).2) ((ss.getD k2 (0, 0, 0)).2.1)) = (vget ws ((vput ws l ((ss.getD k2 (0, 0, 0)).2.1) ((ss.getD k2 (0, 0, 0)).2.2)).2) ((ss.getD k2 (0, 0, 0)).2.1))))))) (v' := (.bool (!(decide ((vget ws ((vput ws l ((ss.getD k2 (0, 0, 0)).2.1) ((ss.getD k2 (0, 0, 0)).2.2)).2) ((ss.getD k2 (0, 0, 0)).2.1)) = (vget ws ((vput ws l ((ss.getD k2 (0, 0, 0)).2.1) ((ss.getD k2 (0, 0, 0)).2.2)).2) ((ss.getD k2 (0, 0, 0)).2.1))))))) 2 (by kernel_rfl) (fun _ => by kernel_rfl) rfl hs244 ?_
                rcases Bool.eq_false_or_eq_true (!(decide ((vget ws ((vput ws l ((ss.getD k2 (0, 0, 0)).2.1) ((ss.getD k2 (0, 0, 0)).2.2)).2) ((ss.getD k2 (0, 0, 0)).2.1)) = (vget ws ((vput ws l ((ss.getD k2 (0, 0, 0)).2.1) ((ss.getD k2 (0, 0, 0)).2.2)).2) ((ss.getD k2 (0, 0, 0)).2.1))))) with h245 | h245
                ·
                  have h245p : ¬ ((vget ws ((vput ws l ((ss.getD k2 (0, 0, 0)).2.1) ((ss.getD k2 (0, 0, 0)).2.2)).2) ((ss.getD k2 (0, 0, 0)).2.1)) = (vget ws ((vput ws l ((ss.getD k2 (0, 0, 0)).2.1) ((ss.getD k2 (0, 0, 0)).2.2)).2) ((ss.getD k2 (0, 0, 0)).2.1))) := of_decide_eq_false (bnot_true h245)
                  refine any_set 102 (v := .bool true) (eq_bool_of (by kernel_rfl) h245) ?_
                  refine any_set 103 (v := .bool true) (eq_bool_of (by kernel_rfl) h245) ?_
                  refine any_skip 3 (by kernel_rfl) rfl (by kernel_rfl) hs244 ?_
                  refine any_skip 4 (by kernel_rfl) rfl (by kernel_rfl) hs244 ?_
                  refine any_skip 5 (by kernel_rfl) rfl (by kernel_rfl) hs244 ?_
                  refine any_skip 6 (by kernel_rfl) rfl (by kernel_rfl) hs244 ?_
                  refine any_skip 7 (by kernel_rfl) rfl (by kernel_rfl) hs244 ?_
                  refine any_skip 8 (by kernel_rfl) rfl (by kernel_rfl) hs244 ?_
                  refine any_skip 9 (by kernel_rfl) rfl (by kernel_rfl) hs244 ?_
                  refine any_skip 10 (by kernel_rfl) rfl (by kernel_rfl) hs244 ?_
                  refine any_skip 11 (by kernel_rfl) rfl (by kernel_rfl) hs244 ?_
                  refine any_skip 12 (by kernel_rfl) rfl (by kernel_rfl) hs244 ?_
                  refine any_skip 13 (by kernel_rfl) rfl (by kernel_rfl) hs244 ?_
                  refine any_skip 14 (by kernel_rfl) rfl (by kernel_rfl) hs244 ?_
                  refine any_skip 15 (by kernel_rfl) rfl (by kernel_rfl) hs244 ?_
                  refine any_val (v := (.bool true)) (v' := (.bool true)) 16 (by kernel_rfl) (fun _ => by kernel_rfl) rfl hs244 ?_
                  refine any_done (by kernel_rfl) ?_
                  have hs246 : St B w [] w226.drew [refA (ptr b30) ws ((vput ws l ((ss.getD k2 (0, 0, 0)).2.1) ((ss.getD k2 (0, 0, 0)).2.2)).2), viewA (ptr b25) ws ((vput ws l ((ss.getD k2 (0, 0, 0)).2.1) ((ss.getD k2 (0, 0, 0)).2.2)).2), blk b68 (.cells [(.int .u8 ((ss.getD k2 (0, 0, 0)).1)), (.int .i64 ((ss.getD k2 (0, 0, 0)).2.1)), (.int .u64 ((ss.getD k2 (0, 0, 0)).2.2))].toArray 35 (0, 0))] := ref_close (l := (vput ws l ((ss.getD k2 (0, 0, 0)).2.1) ((ss.getD k2 (0, 0, 0)).2.2)).2) (ia := ia232) (ic := ic233) (la := la234) (lc := lc235) (many := mn236) hok238 hs241
                  refine hK231 _ _ ?_
                  clear hK231
                  refine W.cond_true true (by kernel_rfl) rfl ?_
                  refine W.seq fun K247 hK247 => ?_
                  refine W.region ?_
                  refine ops_run 1 (by kernel_rfl) ?_
                  refine ops_done (by kernel_rfl) ?_
                  refine hK247 _ _ ?_
                  clear hK247
                  refine W.ret (ret_block (ret_seq (ret_seq (ret_block (ret_seq ?_)))))
                  exfalso; first | contradiction | omega
                ·
                  have h245p : (vget ws ((vput ws l ((ss.getD k2 (0, 0, 0)).2.1) ((ss.getD k2 (0, 0, 0)).2.2)).2) ((ss.getD k2 (0, 0, 0)).2.1)) = (vget ws ((vput ws l ((ss.getD k2 (0, 0, 0)).2.1) ((ss.getD k2 (0, 0, 0)).2.2)).2) ((ss.getD k2 (0, 0, 0)).2.1)) := of_decide_eq_true (bnot_false h245)
                  refine any_set 102 (v := .bool false) (eq_bool_of (by kernel_rfl) h245) ?_
                  refine any_set 103 (v := .bool false) (eq_bool_of (by kernel_rfl) h245) ?_
                  refine any_val (v := (.int .i64 (k2 : Int))) (v' := (.int .i64 (k2 : Int))) 3 (by kernel_rfl) (fun _ => by kernel_rfl) rfl hs244 ?_
                  refine any_val (v := (.int .i64 ((k2 : Int).tmod 10))) (v' := (.int .i64 ((k2 : Int).tmod 10))) 4 (by kernel_rfl) (fun _ => by kernel_rfl) rfl hs244 ?_
                  refine any_val (v := (.bool (decide ((k2 : Int).tmod 10 = 0)))) (v' := (.bool (decide ((k2 : Int).tmod 10 = 0)))) 5 (by kernel_rfl) (fun _ => by kernel_rfl) rfl hs244 ?_
                  refine any_val (v := (.bool (decide ((k2 : Int).tmod 10 = 0)))) (v' := (.bool (decide ((k2 : Int).tmod 10 = 0)))) 6 (by kernel_rfl) (fun _ => by kernel_rfl) rfl hs244 ?_
                  rcases Bool.eq_false_or_eq_true (decide ((k2 : Int).tmod 10 = 0)) with h248 | h248
                  ·
                    have h248p : (k2 : Int).tmod 10 = 0 := of_decide_eq_true h248
                    refine any_set 106 (v := .bool true) (eq_bool_of (by kernel_rfl) h248) ?_
                    refine any_set 107 (v := .bool true) (eq_bool_of (by kernel_rfl) h248) ?_
                    refine any_val (v := (.pointer (some ⟨b25, 0, none⟩))) (v' := (.pointer (some ⟨b25, 0, none⟩))) 7 (by kernel_rfl) (fun _ => by kernel_rfl) rfl hs244 ?_
                    refine any_val (v := (.pointer (some ⟨b30, 0, none⟩))) (v' := (.pointer (some ⟨b30, 0, none⟩))) 9 (by kernel_rfl) (fun _ => by kernel_rfl) rfl hs244 ?_
                    refine any_val (v := (.pointer (some ⟨b30, 0, none⟩))) (v' := (.pointer (some ⟨b30, 0, none⟩))) 10 (by kernel_rfl) (fun _ => by kernel_rfl) rfl hs244 ?_
                    refine any_val (v := (.pointer (some ⟨b30, 1, none⟩))) (v' := (.pointer (some ⟨b30, 1, none⟩))) 11 (by kernel_rfl) (fun _ => by kernel_rfl) rfl hs244 ?_
                    refine any_R 12 (by kernel_rfl) (fun _ hS_ => runs_load (ad := ⟨b30, 1, none⟩) (v := (.slice la234 (((vput ws l ((ss.getD k2 (0, 0, 0)).2.1) ((ss.getD k2 (0, 0, 0)).2.2)).2).length) lc235)) (by kernel_rfl) (hS_.cellAt 0 rfl rfl)) hs244 ?_
                    refine any_step 8 (by kernel_rfl) (by kernel_rfl) ?_
                    refine ops_call (pre := []) hs241 (by kernel_rfl) (writes_spec (hv := (hs241.entAt 3 rfl viewA_at)) B _) ?_
                    rintro _ _ w251 ⟨a249, c250, rfl, rfl⟩ hs252
                    have hs253 : St B w [] w251 [kWr.row a249 c250 ((vput ws l ((ss.getD k2 (0, 0, 0)).2.1) ((ss.getD k2 (0, 0, 0)).2.2)).2), blk b30 (.cells [(.slice ia232 ws.length ic233), (.slice la234 (((vput ws l ((ss.getD k2 (0, 0, 0)).2.1) ((ss.getD k2 (0, 0, 0)).2.2)).2).length) lc235), (.bool mn236)].toArray 44 (0, 0)), kU64.row ia232 ic233 ws, kWr.row la234 lc235 ((vput ws l ((ss.getD k2 (0, 0, 0)).2.1) ((ss.getD k2 (0, 0, 0)).2.2)).2), viewA (ptr b25) ws ((vput ws l ((ss.getD k2 (0, 0, 0)).2.1) ((ss.getD k2 (0, 0, 0)).2.2)).2), blk b68 (.cells [(.int .u8 ((ss.getD k2 (0, 0, 0)).1)), (.int .i64 ((ss.getD k2 (0, 0, 0)).2.1)), (.int .u64 ((ss.getD k2 (0, 0, 0)).2.2))].toArray 35 (0, 0))] := hs252
                    have hs254 : St B w [] w251 [blk b68 (.cells [(.int .u8 ((ss.getD k2 (0, 0, 0)).1)), (.int .i64 ((ss.getD k2 (0, 0, 0)).2.1)), (.int .u64 ((ss.getD k2 (0, 0, 0)).2.2))].toArray 35 (0, 0)), kWr.row a249 c250 ((vput ws l ((ss.getD k2 (0, 0, 0)).2.1) ((ss.getD k2 (0, 0, 0)).2.2)).2), blk b30 (.cells [(.slice ia232 ws.length ic233), (.slice la234 (((vput ws l ((ss.getD k2 (0, 0, 0)).2.1) ((ss.getD k2 (0, 0, 0)).2.2)).2).length) lc235), (.bool mn236)].toArray 44 (0, 0)), kU64.row ia232 ic233 ws, kWr.row la234 lc235 ((vput ws l ((ss.getD k2 (0, 0, 0)).2.1) ((ss.getD k2 (0, 0, 0)).2.2)).2), viewA (ptr b25) ws ((vput ws l ((ss.getD k2 (0, 0, 0)).2.1) ((ss.getD k2 (0, 0, 0)).2.2)).2)] := hs253.front 5 (by simp)
                    have hs255 : St B w [] w251 [blk b30 (.cells [(.slice ia232 ws.length ic233), (.slice la234 (((vput ws l ((ss.getD k2 (0, 0, 0)).2.1) ((ss.getD k2 (0, 0, 0)).2.2)).2).length) lc235), (.bool mn236)].toArray 44 (0, 0)), blk b68 (.cells [(.int .u8 ((ss.getD k2 (0, 0, 0)).1)), (.int .i64 ((ss.getD k2 (0, 0, 0)).2.1)), (.int .u64 ((ss.getD k2 (0, 0, 0)).2.2))].toArray 35 (0, 0)), kWr.row a249 c250 ((vput ws l ((ss.getD k2 (0, 0, 0)).2.1) ((ss.getD k2 (0, 0, 0)).2.2)).2), kU64.row ia232 ic233 ws, kWr.row la234 lc235 ((vput ws l ((ss.getD k2 (0, 0, 0)).2.1) ((ss.getD k2 (0, 0, 0)).2.2)).2), viewA (ptr b25) ws ((vput ws l ((ss.getD k2 (0, 0, 0)).2.1) ((ss.getD k2 (0, 0, 0)).2.2)).2)] := hs254.front 2 (by simp)
                    have hs256 : St B w [] w251 [blk b30 (.cells [(.slice ia232 ws.length ic233), (.slice la234 (((vput ws l ((ss.getD k2 (0, 0, 0)).2.1) ((ss.getD k2 (0, 0, 0)).2.2)).2).length) lc235), (.bool mn236)].toArray 44 (0, 0)), blk b68 (.cells [(.int .u8 ((ss.getD k2 (0, 0, 0)).1)), (.int .i64 ((ss.getD k2 (0, 0, 0)).2.1)), (.int .u64 ((ss.getD k2 (0, 0, 0)).2.2))].toArray 35 (0, 0))] := St.take (H := [blk b30 (.cells [(.slice ia232 ws.length ic233), (.slice la234 (((vput ws l ((ss.getD k2 (0, 0, 0)).2.1) ((ss.getD k2 (0, 0, 0)).2.2)).2).length) lc235), (.bool mn236)].toArray 44 (0, 0)), blk b68 (.cells [(.int .u8 ((ss.getD k2 (0, 0, 0)).1)), (.int .i64 ((ss.getD k2 (0, 0, 0)).2.1)), (.int .u64 ((ss.getD k2 (0, 0, 0)).2.2))].toArray 35 (0, 0))]) hs255
                    refine ops_done (by kernel_rfl) ⟨hs256, ?_⟩
                    refine any_step 13 (by kernel_rfl) (by kernel_rfl) ?_
                    refine ops_call (pre := []) hs253 (by kernel_rfl) (same05_spec (xs := (vput ws l ((ss.getD k2 (0, 0, 0)).2.1) ((ss.getD k2 (0, 0, 0)).2.2)).2) (ys := (vput ws l ((ss.getD k2 (0, 0, 0)).2.1) ((ss.getD k2 (0, 0, 0)).2.2)).2) (xc := c250) (yc := lc235) (n := ((vput ws l ((ss.getD k2 (0, 0, 0)).2.1) ((ss.getD k2 (0, 0, 0)).2.2)).2).length) (m := ((vput ws l ((ss.getD k2 (0, 0, 0)).2.1) ((ss.getD k2 (0, 0, 0)).2.2)).2).length) (hn := rfl) (hm := rfl) (hx := (St.kcells kWr hs253 0 rfl)) (hy := (St.kcells kWr hs253 3 rfl)) (hsz := (by omega)) B _) ?_
                    rintro _ _ w257 ⟨rfl, rfl⟩ hs258
                    have hs259 : St B w [] w257 [kWr.row a249 c250 ((vput ws l ((ss.getD k2 (0, 0, 0)).2.1) ((ss.getD k2 (0, 0, 0)).2.2)).2), blk b30 (.cells [(.slice ia232 ws.length ic233), (.slice la234 (((vput ws l ((ss.getD k2 (0, 0, 0)).2.1) ((ss.getD k2 (0, 0, 0)).2.2)).2).length) lc235), (.bool mn236)].toArray 44 (0, 0)), kU64.row ia232 ic233 ws, kWr.row la234 lc235 ((vput ws l ((ss.getD k2 (0, 0, 0)).2.1) ((ss.getD k2 (0, 0, 0)).2.2)).2), viewA (ptr b25) ws ((vput ws l ((ss.getD k2 (0, 0, 0)).2.1) ((ss.getD k2 (0, 0, 0)).2.2)).2), blk b68 (.cells [(.int .u8 ((ss.getD k2 (0, 0, 0)).1)), (.int .i64 ((ss.getD k2 (0, 0, 0)).2.1)), (.int .u64 ((ss.getD k2 (0, 0, 0)).2.2))].toArray 35 (0, 0))] := hs258
                    have hs260 : St B w [] w257 [blk b68 (.cells [(.int .u8 ((ss.getD k2 (0, 0, 0)).1)), (.int .i64 ((ss.getD k2 (0, 0, 0)).2.1)), (.int .u64 ((ss.getD k2 (0, 0, 0)).2.2))].toArray 35 (0, 0)), kWr.row a249 c250 ((vput ws l ((ss.getD k2 (0, 0, 0)).2.1) ((ss.getD k2 (0, 0, 0)).2.2)).2), blk b30 (.cells [(.slice ia232 ws.length ic233), (.slice la234 (((vput ws l ((ss.getD k2 (0, 0, 0)).2.1) ((ss.getD k2 (0, 0, 0)).2.2)).2).length) lc235), (.bool mn236)].toArray 44 (0, 0)), kU64.row ia232 ic233 ws, kWr.row la234 lc235 ((vput ws l ((ss.getD k2 (0, 0, 0)).2.1) ((ss.getD k2 (0, 0, 0)).2.2)).2), viewA (ptr b25) ws ((vput ws l ((ss.getD k2 (0, 0, 0)).2.1) ((ss.getD k2 (0, 0, 0)).2.2)).2)] := hs259.front 5 (by simp)
                    have hs261 : St B w [] w257 [blk b30 (.cells [(.slice ia232 ws.length ic233), (.slice la234 (((vput ws l ((ss.getD k2 (0, 0, 0)).2.1) ((ss.getD k2 (0, 0, 0)).2.2)).2).length) lc235), (.bool mn236)].toArray 44 (0, 0)), blk b68 (.cells [(.int .u8 ((ss.getD k2 (0, 0, 0)).1)), (.int .i64 ((ss.getD k2 (0, 0, 0)).2.1)), (.int .u64 ((ss.getD k2 (0, 0, 0)).2.2))].toArray 35 (0, 0)), kWr.row a249 c250 ((vput ws l ((ss.getD k2 (0, 0, 0)).2.1) ((ss.getD k2 (0, 0, 0)).2.2)).2), kU64.row ia232 ic233 ws, kWr.row la234 lc235 ((vput ws l ((ss.getD k2 (0, 0, 0)).2.1) ((ss.getD k2 (0, 0, 0)).2.2)).2), viewA (ptr b25) ws ((vput ws l ((ss.getD k2 (0, 0, 0)).2.1) ((ss.getD k2 (0, 0, 0)).2.2)).2)] := hs260.front 2 (by simp)
                    have hs262 : St B w [] w257 [blk b30 (.cells [(.slice ia232 ws.length ic233), (.slice la234 (((vput ws l ((ss.getD k2 (0, 0, 0)).2.1) ((ss.getD k2 (0, 0, 0)).2.2)).2).length) lc235), (.bool mn236)].toArray 44 (0, 0)), blk b68 (.cells [(.int .u8 ((ss.getD k2 (0, 0, 0)).1)), (.int .i64 ((ss.getD k2 (0, 0, 0)).2.1)), (.int .u64 ((ss.getD k2 (0, 0, 0)).2.2))].toArray 35 (0, 0))] := St.take (H := [blk b30 (.cells [(.slice ia232 ws.length ic233), (.slice la234 (((vput ws l ((ss.getD k2 (0, 0, 0)).2.1) ((ss.getD k2 (0, 0, 0)).2.2)).2).length) lc235), (.bool mn236)].toArray 44 (0, 0)), blk b68 (.cells [(.int .u8 ((ss.getD k2 (0, 0, 0)).1)), (.int .i64 ((ss.getD k2 (0, 0, 0)).2.1)), (.int .u64 ((ss.getD k2 (0, 0, 0)).2.2))].toArray 35 (0, 0))]) hs261
                    refine ops_done (by kernel_rfl) ⟨hs262, ?_⟩
                    refine any_val (v := (.bool (!(decide (((vput ws l ((ss.getD k2 (0, 0, 0)).2.1) ((ss.getD k2 (0, 0, 0)).2.2)).2) = ((vput ws l ((ss.getD k2 (0, 0, 0)).2.1) ((ss.getD k2 (0, 0, 0)).2.2)).2)))))) (v' := (.bool (!(decide (((vput ws l ((ss.getD k2 (0, 0, 0)).2.1) ((ss.getD k2 (0, 0, 0)).2.2)).2) = ((vput ws l ((ss.getD k2 (0, 0, 0)).2.1) ((ss.getD k2 (0, 0, 0)).2.2)).2)))))) 14 (by kernel_rfl) (fun _ => by kernel_rfl) rfl hs262 ?_
                    refine any_val (v := (.bool (!(decide (((vput ws l ((ss.getD k2 (0, 0, 0)).2.1) ((ss.getD k2 (0, 0, 0)).2.2)).2) = ((vput ws l ((ss.getD k2 (0, 0, 0)).2.1) ((ss.getD k2 (0, 0, 0)).2.2)).2)))))) (v' := (.bool (!(decide (((vput ws l ((ss.getD k2 (0, 0, 0)).2.1) ((ss.getD k2 (0, 0, 0)).2.2)).2) = ((vput ws l ((ss.getD k2 (0, 0, 0)).2.1) ((ss.getD k2 (0, 0, 0)).2.2)).2)))))) 15 (by kernel_rfl) (fun _ => by kernel_rfl) rfl hs262 ?_
                    refine any_val (v := (.bool (!(decide (((vput ws l ((ss.getD k2 (0, 0, 0)).2.1) ((ss.getD k2 (0, 0, 0)).2.2)).2) = ((vput ws l ((ss.getD k2 (0, 0, 0)).2.1) ((ss.getD k2 (0, 0, 0)).2.2)).2)))))) (v' := (.bool (!(decide (((vput ws l ((ss.getD k2 (0, 0, 0)).2.1) ((ss.getD k2 (0, 0, 0)).2.2)).2) = ((vput ws l ((ss.getD k2 (0, 0, 0)).2.1) ((ss.getD k2 (0, 0, 0)).2.2)).2)))))) 16 (by kernel_rfl) (fun _ => by kernel_rfl) rfl hs262 ?_
                    refine any_done (by kernel_rfl) ?_
                    have hs263 : St B w [] w257 [blk b68 (.cells [(.int .u8 ((ss.getD k2 (0, 0, 0)).1)), (.int .i64 ((ss.getD k2 (0, 0, 0)).2.1)), (.int .u64 ((ss.getD k2 (0, 0, 0)).2.2))].toArray 35 (0, 0)), kWr.row a249 c250 ((vput ws l ((ss.getD k2 (0, 0, 0)).2.1) ((ss.getD k2 (0, 0, 0)).2.2)).2), blk b30 (.cells [(.slice ia232 ws.length ic233), (.slice la234 (((vput ws l ((ss.getD k2 (0, 0, 0)).2.1) ((ss.getD k2 (0, 0, 0)).2.2)).2).length) lc235), (.bool mn236)].toArray 44 (0, 0)), kU64.row ia232 ic233 ws, kWr.row la234 lc235 ((vput ws l ((ss.getD k2 (0, 0, 0)).2.1) ((ss.getD k2 (0, 0, 0)).2.2)).2), viewA (ptr b25) ws ((vput ws l ((ss.getD k2 (0, 0, 0)).2.1) ((ss.getD k2 (0, 0, 0)).2.2)).2)] := hs259.front 5 (by simp)
                    have hs264 : St B w [] w257 [viewA (ptr b25) ws ((vput ws l ((ss.getD k2 (0, 0, 0)).2.1) ((ss.getD k2 (0, 0, 0)).2.2)).2), blk b68 (.cells [(.int .u8 ((ss.getD k2 (0, 0, 0)).1)), (.int .i64 ((ss.getD k2 (0, 0, 0)).2.1)), (.int .u64 ((ss.getD k2 (0, 0, 0)).2.2))].toArray 35 (0, 0)), kWr.row a249 c250 ((vput ws l ((ss.getD k2 (0, 0, 0)).2.1) ((ss.getD k2 (0, 0, 0)).2.2)).2), blk b30 (.cells [(.slice ia232 ws.length ic233), (.slice la234 (((vput ws l ((ss.getD k2 (0, 0, 0)).2.1) ((ss.getD k2 (0, 0, 0)).2.2)).2).length) lc235), (.bool mn236)].toArray 44 (0, 0)), kU64.row ia232 ic233 ws, kWr.row la234 lc235 ((vput ws l ((ss.getD k2 (0, 0, 0)).2.1) ((ss.getD k2 (0, 0, 0)).2.2)).2)] := hs263.front 5 (by simp)
                    have hs265 : St B w [] w257 [kWr.row a249 c250 ((vput ws l ((ss.getD k2 (0, 0, 0)).2.1) ((ss.getD k2 (0, 0, 0)).2.2)).2), viewA (ptr b25) ws ((vput ws l ((ss.getD k2 (0, 0, 0)).2.1) ((ss.getD k2 (0, 0, 0)).2.2)).2), blk b68 (.cells [(.int .u8 ((ss.getD k2 (0, 0, 0)).1)), (.int .i64 ((ss.getD k2 (0, 0, 0)).2.1)), (.int .u64 ((ss.getD k2 (0, 0, 0)).2.2))].toArray 35 (0, 0)), blk b30 (.cells [(.slice ia232 ws.length ic233), (.slice la234 (((vput ws l ((ss.getD k2 (0, 0, 0)).2.1) ((ss.getD k2 (0, 0, 0)).2.2)).2).length) lc235), (.bool mn236)].toArray 44 (0, 0)), kU64.row ia232 ic233 ws, kWr.row la234 lc235 ((vput ws l ((ss.getD k2 (0, 0, 0)).2.1) ((ss.getD k2 (0, 0, 0)).2.2)).2)] := hs264.front 2 (by simp)
                    have hs266 : St B w [] w257 [kWr.row la234 lc235 ((vput ws l ((ss.getD k2 (0, 0, 0)).2.1) ((ss.getD k2 (0, 0, 0)).2.2)).2), kWr.row a249 c250 ((vput ws l ((ss.getD k2 (0, 0, 0)).2.1) ((ss.getD k2 (0, 0, 0)).2.2)).2), viewA (ptr b25) ws ((vput ws l ((ss.getD k2 (0, 0, 0)).2.1) ((ss.getD k2 (0, 0, 0)).2.2)).2), blk b68 (.cells [(.int .u8 ((ss.getD k2 (0, 0, 0)).1)), (.int .i64 ((ss.getD k2 (0, 0, 0)).2.1)), (.int .u64 ((ss.getD k2 (0, 0, 0)).2.2))].toArray 35 (0, 0)), blk b30 (.cells [(.slice ia232 ws.length ic233), (.slice la234 (((vput ws l ((ss.getD k2 (0, 0, 0)).2.1) ((ss.getD k2 (0, 0, 0)).2.2)).2).length) lc235), (.bool mn236)].toArray 44 (0, 0)), kU64.row ia232 ic233 ws] := hs265.front 5 (by simp)
                    have hs267 : St B w [] w257 [kU64.row ia232 ic233 ws, kWr.row la234 lc235 ((vput ws l ((ss.getD k2 (0, 0, 0)).2.1) ((ss.getD k2 (0, 0, 0)).2.2)).2), kWr.row a249 c250 ((vput ws l ((ss.getD k2 (0, 0, 0)).2.1) ((ss.getD k2 (0, 0, 0)).2.2)).2), viewA (ptr b25) ws ((vput ws l ((ss.getD k2 (0, 0, 0)).2.1) ((ss.getD k2 (0, 0, 0)).2.2)).2), blk b68 (.cells [(.int .u8 ((ss.getD k2 (0, 0, 0)).1)), (.int .i64 ((ss.getD k2 (0, 0, 0)).2.1)), (.int .u64 ((ss.getD k2 (0, 0, 0)).2.2))].toArray 35 (0, 0)), blk b30 (.cells [(.slice ia232 ws.length ic233), (.slice la234 (((vput ws l ((ss.getD k2 (0, 0, 0)).2.1) ((ss.getD k2 (0, 0, 0)).2.2)).2).length) lc235), (.bool mn236)].toArray 44 (0, 0))] := hs266.front 5 (by simp)
                    have hs268 : St B w [] w257 [blk b30 (.cells [(.slice ia232 ws.length ic233), (.slice la234 (((vput ws l ((ss.getD k2 (0, 0, 0)).2.1) ((ss.getD k2 (0, 0, 0)).2.2)).2).length) lc235), (.bool mn236)].toArray 44 (0, 0)), kU64.row ia232 ic233 ws, kWr.row la234 lc235 ((vput ws l ((ss.getD k2 (0, 0, 0)).2.1) ((ss.getD k2 (0, 0, 0)).2.2)).2), kWr.row a249 c250 ((vput ws l ((ss.getD k2 (0, 0, 0)).2.1) ((ss.getD k2 (0, 0, 0)).2.2)).2), viewA (ptr b25) ws ((vput ws l ((ss.getD k2 (0, 0, 0)).2.1) ((ss.getD k2 (0, 0, 0)).2.2)).2), blk b68 (.cells [(.int .u8 ((ss.getD k2 (0, 0, 0)).1)), (.int .i64 ((ss.getD k2 (0, 0, 0)).2.1)), (.int .u64 ((ss.getD k2 (0, 0, 0)).2.2))].toArray 35 (0, 0))] := hs267.front 5 (by simp)
                    have hs269 : St B w [] w257 [refA (ptr b30) ws ((vput ws l ((ss.getD k2 (0, 0, 0)).2.1) ((ss.getD k2 (0, 0, 0)).2.2)).2), kWr.row a249 c250 ((vput ws l ((ss.getD k2 (0, 0, 0)).2.1) ((ss.getD k2 (0, 0, 0)).2.2)).2), viewA (ptr b25) ws ((vput ws l ((ss.getD k2 (0, 0, 0)).2.1) ((ss.getD k2 (0, 0, 0)).2.2)).2), blk b68 (.cells [(.int .u8 ((ss.getD k2 (0, 0, 0)).1)), (.int .i64 ((ss.getD k2 (0, 0, 0)).2.1)), (.int .u64 ((ss.getD k2 (0, 0, 0)).2.2))].toArray 35 (0, 0))] := ref_close (l := (vput ws l ((ss.getD k2 (0, 0, 0)).2.1) ((ss.getD k2 (0, 0, 0)).2.2)).2) (ia := ia232) (ic := ic233) (la := la234) (lc := lc235) (many := mn236) hok238 hs268
                    refine hK231 _ _ ?_
                    clear hK231
                    refine W.cond (!(decide (((vput ws l ((ss.getD k2 (0, 0, 0)).2.1) ((ss.getD k2 (0, 0, 0)).2.2)).2) = ((vput ws l ((ss.getD k2 (0, 0, 0)).2.1) ((ss.getD k2 (0, 0, 0)).2.2)).2)))) (by kernel_rfl) (fun h270 => ?_) (fun h270 => ?_)
                    ·
                      have h270p : ¬ (((vput ws l ((ss.getD k2 (0, 0, 0)).2.1) ((ss.getD k2 (0, 0, 0)).2.2)).2) = ((vput ws l ((ss.getD k2 (0, 0, 0)).2.1) ((ss.getD k2 (0, 0, 0)).2.2)).2)) := of_decide_eq_false (bnot_true h270)
                      refine W.seq fun K271 hK271 => ?_
                      refine W.region ?_
                      refine ops_run 1 (by kernel_rfl) ?_
                      refine ops_done (by kernel_rfl) ?_
                      refine hK271 _ _ ?_
                      clear hK271
                      refine W.ret (ret_block (ret_seq (ret_seq (ret_block (ret_seq ?_)))))
                      exfalso; first | contradiction | omega
                    ·
                      have h270p : ((vput ws l ((ss.getD k2 (0, 0, 0)).2.1) ((ss.getD k2 (0, 0, 0)).2.2)).2) = ((vput ws l ((ss.getD k2 (0, 0, 0)).2.1) ((ss.getD k2 (0, 0, 0)).2.2)).2) := of_decide_eq_true (bnot_false h270)
                      refine W.skip ?_
                      refine normal_block ?_
                      refine hK63 _ _ ?_
                      clear hK63
                      refine W.region ?_
                      refine ops_run 1 (by kernel_rfl) ?_
                      refine ops_val (v := .int .i64 (IntKind.i64.wrap ((k2 : Int) + 1))) (v' := .int .i64 ((k2 + 1 : Nat) : Int)) (by kernel_rfl) (congrArg (Value.int .i64) (wrap_i64 (by omega) (by omega))) ?_
                      refine ops_run 1 (by kernel_rfl) ?_
                      refine ops_done (by kernel_rfl) ?_
                      have hs272 : St B w [] w257 [viewA (ptr b25) ws ((vput ws l ((ss.getD k2 (0, 0, 0)).2.1) ((ss.getD k2 (0, 0, 0)).2.2)).2), refA (ptr b30) ws ((vput ws l ((ss.getD k2 (0, 0, 0)).2.1) ((ss.getD k2 (0, 0, 0)).2.2)).2), kWr.row a249 c250 ((vput ws l ((ss.getD k2 (0, 0, 0)).2.1) ((ss.getD k2 (0, 0, 0)).2.2)).2), blk b68 (.cells [(.int .u8 ((ss.getD k2 (0, 0, 0)).1)), (.int .i64 ((ss.getD k2 (0, 0, 0)).2.1)), (.int .u64 ((ss.getD k2 (0, 0, 0)).2.2))].toArray 35 (0, 0))] := hs269.front 2 (by simp)
                      have hs273 : St B w [] w257 [viewA (ptr b25) ws ((vput ws l ((ss.getD k2 (0, 0, 0)).2.1) ((ss.getD k2 (0, 0, 0)).2.2)).2), refA (ptr b30) ws ((vput ws l ((ss.getD k2 (0, 0, 0)).2.1) ((ss.getD k2 (0, 0, 0)).2.2)).2)] := St.take (H := [viewA (ptr b25) ws ((vput ws l ((ss.getD k2 (0, 0, 0)).2.1) ((ss.getD k2 (0, 0, 0)).2.2)).2), refA (ptr b30) ws ((vput ws l ((ss.getD k2 (0, 0, 0)).2.1) ((ss.getD k2 (0, 0, 0)).2.2)).2)]) hs272
                      exact ⟨(k2 + 1, (vput ws l ((ss.getD k2 (0, 0, 0)).2.1) ((ss.getD k2 (0, 0, 0)).2.2)).2), ⟨slots_intro _ (by kernel_rfl), hs273, by omega⟩, by first | omega | (dsimp only; omega)⟩
                  ·
                    have h248p : ¬ ((k2 : Int).tmod 10 = 0) := of_decide_eq_false h248
                    refine any_set 106 (v := .bool false) (eq_bool_of (by kernel_rfl) h248) ?_
                    refine any_set 107 (v := .bool false) (eq_bool_of (by kernel_rfl) h248) ?_
                    refine any_skip 7 (by kernel_rfl) rfl (by kernel_rfl) hs244 ?_
                    refine any_skip 8 (by kernel_rfl) rfl (by kernel_rfl) hs244 ?_
                    refine any_skip 9 (by kernel_rfl) rfl (by kernel_rfl) hs244 ?_
                    refine any_skip 10 (by kernel_rfl) rfl (by kernel_rfl) hs244 ?_
                    refine any_skip 11 (by kernel_rfl) rfl (by kernel_rfl) hs244 ?_
                    refine any_skip 12 (by kernel_rfl) rfl (by kernel_rfl) hs244 ?_
                    refine any_skip 13 (by kernel_rfl) rfl (by kernel_rfl) hs244 ?_
                    refine any_skip 14 (by kernel_rfl) rfl (by kernel_rfl) hs244 ?_
                    refine any_val (v := (.bool false)) (v' := (.bool false)) 15 (by kernel_rfl) (fun _ => by kernel_rfl) rfl hs244 ?_
                    refine any_val (v := (.bool false)) (v' := (.bool false)) 16 (by kernel_rfl) (fun _ => by kernel_rfl) rfl hs244 ?_
                    refine any_done (by kernel_rfl) ?_
                    have hs274 : St B w [] w226.drew [refA (ptr b30) ws ((vput ws l ((ss.getD k2 (0, 0, 0)).2.1) ((ss.getD k2 (0, 0, 0)).2.2)).2), viewA (ptr b25) ws ((vput ws l ((ss.getD k2 (0, 0, 0)).2.1) ((ss.getD k2 (0, 0, 0)).2.2)).2), blk b68 (.cells [(.int .u8 ((ss.getD k2 (0, 0, 0)).1)), (.int .i64 ((ss.getD k2 (0, 0, 0)).2.1)), (.int .u64 ((ss.getD k2 (0, 0, 0)).2.2))].toArray 35 (0, 0))] := ref_close (l := (vput ws l ((ss.getD k2 (0, 0, 0)).2.1) ((ss.getD k2 (0, 0, 0)).2.2)).2) (ia := ia232) (ic := ic233) (la := la234) (lc := lc235) (many := mn236) hok238 hs241
                    refine hK231 _ _ ?_
                    clear hK231
                    refine W.cond_false false (by kernel_rfl) rfl ?_
                    refine W.skip ?_
                    refine normal_block ?_
                    refine hK63 _ _ ?_
                    clear hK63
                    refine W.region ?_
                    refine ops_run 1 (by kernel_rfl) ?_
                    refine ops_val (v := .int .i64 (IntKind.i64.wrap ((k2 : Int) + 1))) (v' := .int .i64 ((k2 + 1 : Nat) : Int)) (by kernel_rfl) (congrArg (Value.int .i64) (wrap_i64 (by omega) (by omega))) ?_
                    refine ops_run 1 (by kernel_rfl) ?_
                    refine ops_done (by kernel_rfl) ?_
                    have hs275 : St B w [] w226.drew [viewA (ptr b25) ws ((vput ws l ((ss.getD k2 (0, 0, 0)).2.1) ((ss.getD k2 (0, 0, 0)).2.2)).2), refA (ptr b30) ws ((vput ws l ((ss.getD k2 (0, 0, 0)).2.1) ((ss.getD k2 (0, 0, 0)).2.2)).2), blk b68 (.cells [(.int .u8 ((ss.getD k2 (0, 0, 0)).1)), (.int .i64 ((ss.getD k2 (0, 0, 0)).2.1)), (.int .u64 ((ss.getD k2 (0, 0, 0)).2.2))].toArray 35 (0, 0))] := hs274.front 1 (by simp)
                    have hs276 : St B w [] w226.drew [viewA (ptr b25) ws ((vput ws l ((ss.getD k2 (0, 0, 0)).2.1) ((ss.getD k2 (0, 0, 0)).2.2)).2), refA (ptr b30) ws ((vput ws l ((ss.getD k2 (0, 0, 0)).2.1) ((ss.getD k2 (0, 0, 0)).2.2)).2)] := St.take (H := [viewA (ptr b25) ws ((vput ws l ((ss.getD k2 (0, 0, 0)).2.1) ((ss.getD k2 (0, 0, 0)).2.2)).2), refA (ptr b30) ws ((vput ws l ((ss.getD k2 (0, 0, 0)).2.1) ((ss.getD k2 (0, 0, 0)).2.2)).2)]) hs275
                    exact ⟨(k2 + 1, (vput ws l ((ss.getD k2 (0, 0, 0)).2.1) ((ss.getD k2 (0, 0, 0)).2.2)).2), ⟨slots_intro _ (by kernel_rfl), hs276, by omega⟩, by first | omega | (dsimp only; omega)⟩
              ·
                have h220p : ¬ ((vput ws l ((ss.getD k2 (0, 0, 0)).2.1) ((ss.getD k2 (0, 0, 0)).2.2)).1 = (vput ws l ((ss.getD k2 (0, 0, 0)).2.1) ((ss.getD k2 (0, 0, 0)).2.2)).1) := of_decide_eq_false h220
                refine any_set 71 (v := .bool false) (eq_bool_of (by kernel_rfl) h220) ?_
                refine any_set 72 (v := .bool false) (eq_bool_of (by kernel_rfl) h220) ?_
                refine any_skip 14 (by kernel_rfl) rfl (by kernel_rfl) hs219 ?_
                refine any_skip 15 (by kernel_rfl) rfl (by kernel_rfl) hs219 ?_
                refine any_skip 16 (by kernel_rfl) rfl (by kernel_rfl) hs219 ?_
                refine any_skip 17 (by kernel_rfl) rfl (by kernel_rfl) hs219 ?_
                refine any_skip 18 (by kernel_rfl) rfl (by kernel_rfl) hs219 ?_
                refine any_skip 19 (by kernel_rfl) rfl (by kernel_rfl) hs219 ?_
                refine any_skip 20 (by kernel_rfl) rfl (by kernel_rfl) hs219 ?_
                refine any_skip 21 (by kernel_rfl) rfl (by kernel_rfl) hs219 ?_
                refine any_skip 22 (by kernel_rfl) rfl (by kernel_rfl) hs219 ?_
                refine any_val (v := (.bool false)) (v' := (.bool false)) 23 (by kernel_rfl) (fun _ => by kernel_rfl) rfl hs219 ?_
                refine any_val (v := (.bool false)) (v' := (.bool false)) 24 (by kernel_rfl) (fun _ => by kernel_rfl) rfl hs219 ?_
                refine any_done (by kernel_rfl) ?_
                refine normal_block ?_
                refine hK73 _ _ ?_
                clear hK73
                refine W.seq fun K277 hK277 => ?_
                obtain ⟨⟨_, ia278, ic279, la280, lc281, mn282⟩, ⟨ex283, hok284⟩, hs285⟩ := St.open hs217
                have hs286 : St B w [] w215 [blk b30 (.cells [(.slice ia278 ws.length ic279), (.slice la280 (((vput ws l ((ss.getD k2 (0, 0, 0)).2.1) ((ss.getD k2 (0, 0, 0)).2.2)).2).length) lc281), (.bool mn282)].toArray 44 (0, 0)), kU64.row ia278 ic279 ws, kWr.row la280 lc281 ((vput ws l ((ss.getD k2 (0, 0, 0)).2.1) ((ss.getD k2 (0, 0, 0)).2.2)).2), viewA (ptr b25) ws ((vput ws l ((ss.getD k2 (0, 0, 0)).2.1) ((ss.getD k2 (0, 0, 0)).2.2)).2), blk b68 (.cells [(.int .u8 ((ss.getD k2 (0, 0, 0)).1)), (.int .i64 ((ss.getD k2 (0, 0, 0)).2.1)), (.int .u64 ((ss.getD k2 (0, 0, 0)).2.2))].toArray 35 (0, 0))] := by cases ex283; exact hs285
                have := hok284.many
                have hs287 := hs286.drew
                have hs288 : St B w [] w215.drew [blk b68 (.cells [(.int .u8 ((ss.getD k2 (0, 0, 0)).1)), (.int .i64 ((ss.getD k2 (0, 0, 0)).2.1)), (.int .u64 ((ss.getD k2 (0, 0, 0)).2.2))].toArray 35 (0, 0)), blk b30 (.cells [(.slice ia278 ws.length ic279), (.slice la280 (((vput ws l ((ss.getD k2 (0, 0, 0)).2.1) ((ss.getD k2 (0, 0, 0)).2.2)).2).length) lc281), (.bool mn282)].toArray 44 (0, 0)), kU64.row ia278 ic279 ws, kWr.row la280 lc281 ((vput ws l ((ss.getD k2 (0, 0, 0)).2.1) ((ss.getD k2 (0, 0, 0)).2.2)).2), viewA (ptr b25) ws ((vput ws l ((ss.getD k2 (0, 0, 0)).2.1) ((ss.getD k2 (0, 0, 0)).2.2)).2)] := hs287.front 4 (by simp)
                have hs289 : St B w [] w215.drew [blk b30 (.cells [(.slice ia278 ws.length ic279), (.slice la280 (((vput ws l ((ss.getD k2 (0, 0, 0)).2.1) ((ss.getD k2 (0, 0, 0)).2.2)).2).length) lc281), (.bool mn282)].toArray 44 (0, 0)), blk b68 (.cells [(.int .u8 ((ss.getD k2 (0, 0, 0)).1)), (.int .i64 ((ss.getD k2 (0, 0, 0)).2.1)), (.int .u64 ((ss.getD k2 (0, 0, 0)).2.2))].toArray 35 (0, 0)), kU64.row ia278 ic279 ws, kWr.row la280 lc281 ((vput ws l ((ss.getD k2 (0, 0, 0)).2.1) ((ss.getD k2 (0, 0, 0)).2.2)).2), viewA (ptr b25) ws ((vput ws l ((ss.getD k2 (0, 0, 0)).2.1) ((ss.getD k2 (0, 0, 0)).2.2)).2)] := hs288.front 1 (by simp)
                have hs290 : St B w [] w215.drew [blk b30 (.cells [(.slice ia278 ws.length ic279), (.slice la280 (((vput ws l ((ss.getD k2 (0, 0, 0)).2.1) ((ss.getD k2 (0, 0, 0)).2.2)).2).length) lc281), (.bool mn282)].toArray 44 (0, 0)), blk b68 (.cells [(.int .u8 ((ss.getD k2 (0, 0, 0)).1)), (.int .i64 ((ss.getD k2 (0, 0, 0)).2.1)), (.int .u64 ((ss.getD k2 (0, 0, 0)).2.2))].toArray 35 (0, 0))] := St.take (H := [blk b30 (.cells [(.slice ia278 ws.length ic279), (.slice la280 (((vput ws l ((ss.getD k2 (0, 0, 0)).2.1) ((ss.getD k2 (0, 0, 0)).2.2)).2).length) lc281), (.bool mn282)].toArray 44 (0, 0)), blk b68 (.cells [(.int .u8 ((ss.getD k2 (0, 0, 0)).1)), (.int .i64 ((ss.getD k2 (0, 0, 0)).2.1)), (.int .u64 ((ss.getD k2 (0, 0, 0)).2.2))].toArray 35 (0, 0))]) hs289
                refine W.regionD (fun w_ => St B w [] w_ [blk b30 (.cells [(.slice ia278 ws.length ic279), (.slice la280 (((vput ws l ((ss.getD k2 (0, 0, 0)).2.1) ((ss.getD k2 (0, 0, 0)).2.2)).2).length) lc281), (.bool mn282)].toArray 44 (0, 0)), blk b68 (.cells [(.int .u8 ((ss.getD k2 (0, 0, 0)).1)), (.int .i64 ((ss.getD k2 (0, 0, 0)).2.1)), (.int .u64 ((ss.getD k2 (0, 0, 0)).2.2))].toArray 35 (0, 0))]) (by kernel_rfl) hs290 ?_
                refine any_val (v := (.bool false)) (v' := (.bool false)) 0 (by kernel_rfl) (fun _ => by kernel_rfl) rfl hs290 ?_
                refine any_val (v := (.bool true)) (v' := (.bool true)) 1 (by kernel_rfl) (fun _ => by kernel_rfl) rfl hs290 ?_
                refine any_val (v := (.bool true)) (v' := (.bool true)) 2 (by kernel_rfl) (fun _ => by kernel_rfl) rfl hs290 ?_
                refine any_skip 3 (by kernel_rfl) rfl (by kernel_rfl) hs290 ?_
                refine any_skip 4 (by kernel_rfl) rfl (by kernel_rfl) hs290 ?_
                refine any_skip 5 (by kernel_rfl) rfl (by kernel_rfl) hs290 ?_
                refine any_skip 6 (by kernel_rfl) rfl (by kernel_rfl) hs290 ?_
                refine any_skip 7 (by kernel_rfl) rfl (by kernel_rfl) hs290 ?_
                refine any_skip 8 (by kernel_rfl) rfl (by kernel_rfl) hs290 ?_
                refine any_skip 9 (by kernel_rfl) rfl (by kernel_rfl) hs290 ?_
                refine any_skip 10 (by kernel_rfl) rfl (by kernel_rfl) hs290 ?_
                refine any_skip 11 (by kernel_rfl) rfl (by kernel_rfl) hs290 ?_
                refine any_skip 12 (by kernel_rfl) rfl (by kernel_rfl) hs290 ?_
                refine any_skip 13 (by kernel_rfl) rfl (by kernel_rfl) hs290 ?_
                refine any_skip 14 (by kernel_rfl) rfl (by kernel_rfl) hs290 ?_
                refine any_skip 15 (by kernel_rfl) rfl (by kernel_rfl) hs290 ?_
                refine any_val (v := (.bool true)) (v' := (.bool true)) 16 (by kernel_rfl) (fun _ => by kernel_rfl) rfl hs290 ?_
                refine any_done (by kernel_rfl) ?_
                have hs291 : St B w [] w215.drew [refA (ptr b30) ws ((vput ws l ((ss.getD k2 (0, 0, 0)).2.1) ((ss.getD k2 (0, 0, 0)).2.2)).2), viewA (ptr b25) ws ((vput ws l ((ss.getD k2 (0, 0, 0)).2.1) ((ss.getD k2 (0, 0, 0)).2.2)).2), blk b68 (.cells [(.int .u8 ((ss.getD k2 (0, 0, 0)).1)), (.int .i64 ((ss.getD k2 (0, 0, 0)).2.1)), (.int .u64 ((ss.getD k2 (0, 0, 0)).2.2))].toArray 35 (0, 0))] := ref_close (l := (vput ws l ((ss.getD k2 (0, 0, 0)).2.1) ((ss.getD k2 (0, 0, 0)).2.2)).2) (ia := ia278) (ic := ic279) (la := la280) (lc := lc281) (many := mn282) hok284 hs287
                refine hK277 _ _ ?_
                clear hK277
                refine W.cond_true true (by kernel_rfl) rfl ?_
                refine W.seq fun K292 hK292 => ?_
                refine W.region ?_
                refine ops_run 1 (by kernel_rfl) ?_
                refine ops_done (by kernel_rfl) ?_
                refine hK292 _ _ ?_
                clear hK292
                refine W.ret (ret_block (ret_seq (ret_seq (ret_block (ret_seq ?_)))))
                exfalso; first | contradiction | omega
        ·
          have h62p : ¬ ((k2 : Int) < (ss.length : Int)) := of_decide_eq_false h62
          refine W.exit (exit_seq (exit_seq (exit_here ?_)))
          refine hK54 _ _ ?_
          clear hK54
          refine W.seq fun K293 hK293 => ?_
          refine W.region ?_
          refine ops_run 1 (by kernel_rfl) ?_
          refine ops_call (pre := []) hs57 (by kernel_rfl) (writes_spec (hv := (hs57.entAt 0 rfl viewA_at)) B _) ?_
          rintro _ _ w296 ⟨a294, c295, rfl, rfl⟩ hs297
          have hs298 : St B w [] w296 [kWr.row a294 c295 l, viewA (ptr b25) ws l, refA (ptr b30) ws l] := hs297
          refine ops_run 1 (by kernel_rfl) ?_
          refine ops_done (by kernel_rfl) ?_
          refine hK293 _ _ ?_
          clear hK293
          refine W.seq fun K299 hK299 => ?_
          refine W.region ?_
          refine ops_run 1 (by kernel_rfl) ?_
          refine ops_call (pre := []) hs298 (by kernel_rfl) (flat_spec (hv := (hs298.entAt 1 rfl viewA_at)) B _) ?_
          rintro _ _ w302 ⟨a300, c301, rfl, rfl⟩ hs303
          have hs304 : St B w [] w302 [kU64.row a300 c301 (vflat ws l), kWr.row a294 c295 l, viewA (ptr b25) ws l, refA (ptr b30) ws l] := hs303
          refine ops_run 1 (by kernel_rfl) ?_
          refine ops_done (by kernel_rfl) ?_
          refine hK299 _ _ ?_
          clear hK299
          refine W.seq fun K305 hK305 => ?_
          refine W.seq fun K306 hK306 => ?_
          have hvl := vflat_length ws l
          have hs307 : St B w [] w302 [refA (ptr b30) ws l, kU64.row a300 c301 (vflat ws l), kWr.row a294 c295 l, viewA (ptr b25) ws l] := hs304.front 3 (by simp)
          obtain ⟨⟨_, ia308, ic309, la310, lc311, mn312⟩, ⟨ex313, hok314⟩, hs315⟩ := St.open hs307
          have hs316 : St B w [] w302 [blk b30 (.cells [(.slice ia308 ws.length ic309), (.slice la310 l.length lc311), (.bool mn312)].toArray 44 (0, 0)), kU64.row ia308 ic309 ws, kWr.row la310 lc311 l, kU64.row a300 c301 (vflat ws l), kWr.row a294 c295 l, viewA (ptr b25) ws l] := by cases ex313; exact hs315
          have := hok314.many
          refine W.region ?_
          refine ops_run 4 (by kernel_rfl) ?_
          refine ops_R (runs_load (ad := ⟨b30, 1, none⟩) (v := (.slice la310 l.length lc311)) (by kernel_rfl) (hs316.cellAt 0 rfl rfl)) ?_
          refine ops_call (pre := []) hs316 (by kernel_rfl) (same05_spec (xs := l) (ys := l) (xc := c295) (yc := lc311) (n := l.length) (m := l.length) (hn := rfl) (hm := rfl) (hx := (St.kcells kWr hs316 4 rfl)) (hy := (St.kcells kWr hs316 2 rfl)) (hsz := (by omega)) B _) ?_
          rintro _ _ w317 ⟨rfl, rfl⟩ hs318
          have hs319 : St B w [] w317 [blk b30 (.cells [(.slice ia308 ws.length ic309), (.slice la310 l.length lc311), (.bool mn312)].toArray 44 (0, 0)), kU64.row ia308 ic309 ws, kWr.row la310 lc311 l, kU64.row a300 c301 (vflat ws l), kWr.row a294 c295 l, viewA (ptr b25) ws l] := hs318
          refine ops_run 2 (by kernel_rfl) ?_
          rcases Bool.eq_false_or_eq_true (!(decide (l = l))) with h320 | h320
          ·
            have h320p : ¬ (l = l) := of_decide_eq_false (bnot_true h320)
            refine ops_set 129 (v := .bool true) (eq_bool_of (by kernel_rfl) h320) ?_
            refine ops_set 128 (v := .bool true) (eq_bool_of (by kernel_rfl) h320) ?_
            refine ops_run 13 (by kernel_rfl) ?_
            refine ops_done (by kernel_rfl) ?_
            have hs321 : St B w [] w317 [refA (ptr b30) ws l, kU64.row a300 c301 (vflat ws l), kWr.row a294 c295 l, viewA (ptr b25) ws l] := ref_close (l := l) (ia := ia308) (ic := ic309) (la := la310) (lc := lc311) (many := mn312) hok314 hs319
            refine hK306 _ _ ?_
            clear hK306
            refine W.cond_true true (by kernel_rfl) rfl ?_
            refine W.seq fun K322 hK322 => ?_
            refine W.region ?_
            refine ops_run 1 (by kernel_rfl) ?_
            refine ops_done (by kernel_rfl) ?_
            refine hK322 _ _ ?_
            clear hK322
            refine W.ret (ret_seq ?_)
            exfalso; first | contradiction | omega
          ·
            have h320p : l = l := of_decide_eq_true (bnot_false h320)
            refine ops_set 129 (v := .bool false) (eq_bool_of (by kernel_rfl) h320) ?_
            refine ops_set 128 (v := .bool false) (eq_bool_of (by kernel_rfl) h320) ?_
            refine ops_run 2 (by kernel_rfl) ?_
            refine ops_call (pre := []) hs319 (by kernel_rfl) (rflat_spec (hv := (show RefAt (ptr b30) ws l _ from ⟨⟨b30, ia308, ic309, la310, lc311, mn312⟩, rfl, hok314, hs319.heapAt 0 rfl, St.kcells kU64 hs319 1 rfl, St.kcells kWr hs319 2 rfl, St.capnil kU64 hs319 1 rfl⟩)) B _) ?_
            rintro _ _ w325 ⟨a323, c324, rfl, rfl⟩ hs326
            have hs327 : St B w [] w325 [kU64.row a323 c324 (vflat ws l), blk b30 (.cells [(.slice ia308 ws.length ic309), (.slice la310 l.length lc311), (.bool mn312)].toArray 44 (0, 0)), kU64.row ia308 ic309 ws, kWr.row la310 lc311 l, kU64.row a300 c301 (vflat ws l), kWr.row a294 c295 l, viewA (ptr b25) ws l] := hs326
            refine ops_call (pre := []) hs327 (by kernel_rfl) (same03_spec (xs := (vflat ws l)) (ys := (vflat ws l)) (xc := c301) (yc := c324) (n := (vflat ws l).length) (m := (vflat ws l).length) (hn := rfl) (hm := rfl) (hx := (St.kcells kU64 hs327 4 rfl)) (hy := (St.kcells kU64 hs327 0 rfl)) (hsz := (by omega)) B _) ?_
            rintro _ _ w328 ⟨rfl, rfl⟩ hs329
            have hs330 : St B w [] w328 [kU64.row a323 c324 (vflat ws l), blk b30 (.cells [(.slice ia308 ws.length ic309), (.slice la310 l.length lc311), (.bool mn312)].toArray 44 (0, 0)), kU64.row ia308 ic309 ws, kWr.row la310 lc311 l, kU64.row a300 c301 (vflat ws l), kWr.row a294 c295 l, viewA (ptr b25) ws l] := hs329
            refine ops_run 3 (by kernel_rfl) ?_
            rcases Bool.eq_false_or_eq_true (!(decide ((vflat ws l) = (vflat ws l)))) with h331 | h331
            ·
              have h331p : ¬ ((vflat ws l) = (vflat ws l)) := of_decide_eq_false (bnot_true h331)
              refine ops_set 136 (v := .bool true) (eq_bool_of (by kernel_rfl) h331) ?_
              refine ops_set 134 (v := .bool true) (eq_bool_of (by kernel_rfl) h331) ?_
              refine ops_set 135 (v := .bool true) (eq_bool_of (by kernel_rfl) h331) ?_
              refine ops_run 6 (by kernel_rfl) ?_
              refine ops_done (by kernel_rfl) ?_
              have hs332 : St B w [] w328 [viewA (ptr b25) ws l, kU64.row a323 c324 (vflat ws l), blk b30 (.cells [(.slice ia308 ws.length ic309), (.slice la310 l.length lc311), (.bool mn312)].toArray 44 (0, 0)), kU64.row ia308 ic309 ws, kWr.row la310 lc311 l, kU64.row a300 c301 (vflat ws l), kWr.row a294 c295 l] := hs330.front 6 (by simp)
              have hs333 : St B w [] w328 [kWr.row a294 c295 l, viewA (ptr b25) ws l, kU64.row a323 c324 (vflat ws l), blk b30 (.cells [(.slice ia308 ws.length ic309), (.slice la310 l.length lc311), (.bool mn312)].toArray 44 (0, 0)), kU64.row ia308 ic309 ws, kWr.row la310 lc311 l, kU64.row a300 c301 (vflat ws l)] := hs332.front 6 (by simp)
              have hs334 : St B w [] w328 [kU64.row a300 c301 (vflat ws l), kWr.row a294 c295 l, viewA (ptr b25) ws l, kU64.row a323 c324 (vflat ws l), blk b30 (.cells [(.slice ia308 ws.length ic309), (.slice la310 l.length lc311), (.bool mn312)].toArray 44 (0, 0)), kU64.row ia308 ic309 ws, kWr.row la310 lc311 l] := hs333.front 6 (by simp)
              have hs335 : St B w [] w328 [kU64.row a323 c324 (vflat ws l), kU64.row a300 c301 (vflat ws l), kWr.row a294 c295 l, viewA (ptr b25) ws l, blk b30 (.cells [(.slice ia308 ws.length ic309), (.slice la310 l.length lc311), (.bool mn312)].toArray 44 (0, 0)), kU64.row ia308 ic309 ws, kWr.row la310 lc311 l] := hs334.front 3 (by simp)
              have hs336 : St B w [] w328 [kWr.row la310 lc311 l, kU64.row a323 c324 (vflat ws l), kU64.row a300 c301 (vflat ws l), kWr.row a294 c295 l, viewA (ptr b25) ws l, blk b30 (.cells [(.slice ia308 ws.length ic309), (.slice la310 l.length lc311), (.bool mn312)].toArray 44 (0, 0)), kU64.row ia308 ic309 ws] := hs335.front 6 (by simp)
              have hs337 : St B w [] w328 [kU64.row ia308 ic309 ws, kWr.row la310 lc311 l, kU64.row a323 c324 (vflat ws l), kU64.row a300 c301 (vflat ws l), kWr.row a294 c295 l, viewA (ptr b25) ws l, blk b30 (.cells [(.slice ia308 ws.length ic309), (.slice la310 l.length lc311), (.bool mn312)].toArray 44 (0, 0))] := hs336.front 6 (by simp)
              have hs338 : St B w [] w328 [blk b30 (.cells [(.slice ia308 ws.length ic309), (.slice la310 l.length lc311), (.bool mn312)].toArray 44 (0, 0)), kU64.row ia308 ic309 ws, kWr.row la310 lc311 l, kU64.row a323 c324 (vflat ws l), kU64.row a300 c301 (vflat ws l), kWr.row a294 c295 l, viewA (ptr b25) ws l] := hs337.front 6 (by simp)
              have hs339 : St B w [] w328 [refA (ptr b30) ws l, kU64.row a323 c324 (vflat ws l), kU64.row a300 c301 (vflat ws l), kWr.row a294 c295 l, viewA (ptr b25) ws l] := ref_close (l := l) (ia := ia308) (ic := ic309) (la := la310) (lc := lc311) (many := mn312) hok314 hs338
              refine hK306 _ _ ?_
              clear hK306
              refine W.cond_true true (by kernel_rfl) rfl ?_
              refine W.seq fun K340 hK340 => ?_
              refine W.region ?_
              refine ops_run 1 (by kernel_rfl) ?_
              refine ops_done (by kernel_rfl) ?_
              refine hK340 _ _ ?_
              clear hK340
              refine W.ret (ret_seq ?_)
              exfalso; first | contradiction | omega
            ·
              have h331p : (vflat ws l) = (vflat ws l) := of_decide_eq_true (bnot_false h331)
              refine ops_set 136 (v := .bool false) (eq_bool_of (by kernel_rfl) h331) ?_
              refine ops_set 134 (v := .bool false) (eq_bool_of (by kernel_rfl) h331) ?_
              refine ops_set 135 (v := .bool false) (eq_bool_of (by kernel_rfl) h331) ?_
              refine ops_run 1 (by kernel_rfl) ?_
              refine ops_call (pre := []) hs330 (by kernel_rfl) (len_spec (hv := (hs330.entAt 6 rfl viewA_at)) B _) ?_
              rintro _ _ w341 ⟨rfl, rfl⟩ hs342
              have hs343 : St B w [] w341 [kU64.row a323 c324 (vflat ws l), blk b30 (.cells [(.slice ia308 ws.length ic309), (.slice la310 l.length lc311), (.bool mn312)].toArray 44 (0, 0)), kU64.row ia308 ic309 ws, kWr.row la310 lc311 l, kU64.row a300 c301 (vflat ws l), kWr.row a294 c295 l, viewA (ptr b25) ws l] := hs342
              refine ops_run 4 (by kernel_rfl) ?_
              refine ops_done (by kernel_rfl) ?_
              have hs344 : St B w [] w341 [viewA (ptr b25) ws l, kU64.row a323 c324 (vflat ws l), blk b30 (.cells [(.slice ia308 ws.length ic309), (.slice la310 l.length lc311), (.bool mn312)].toArray 44 (0, 0)), kU64.row ia308 ic309 ws, kWr.row la310 lc311 l, kU64.row a300 c301 (vflat ws l), kWr.row a294 c295 l] := hs343.front 6 (by simp)
              have hs345 : St B w [] w341 [kWr.row a294 c295 l, viewA (ptr b25) ws l, kU64.row a323 c324 (vflat ws l), blk b30 (.cells [(.slice ia308 ws.length ic309), (.slice la310 l.length lc311), (.bool mn312)].toArray 44 (0, 0)), kU64.row ia308 ic309 ws, kWr.row la310 lc311 l, kU64.row a300 c301 (vflat ws l)] := hs344.front 6 (by simp)
              have hs346 : St B w [] w341 [kU64.row a300 c301 (vflat ws l), kWr.row a294 c295 l, viewA (ptr b25) ws l, kU64.row a323 c324 (vflat ws l), blk b30 (.cells [(.slice ia308 ws.length ic309), (.slice la310 l.length lc311), (.bool mn312)].toArray 44 (0, 0)), kU64.row ia308 ic309 ws, kWr.row la310 lc311 l] := hs345.front 6 (by simp)
              have hs347 : St B w [] w341 [kU64.row a323 c324 (vflat ws l), kU64.row a300 c301 (vflat ws l), kWr.row a294 c295 l, viewA (ptr b25) ws l, blk b30 (.cells [(.slice ia308 ws.length ic309), (.slice la310 l.length lc311), (.bool mn312)].toArray 44 (0, 0)), kU64.row ia308 ic309 ws, kWr.row la310 lc311 l] := hs346.front 3 (by simp)
              have hs348 : St B w [] w341 [kWr.row la310 lc311 l, kU64.row a323 c324 (vflat ws l), kU64.row a300 c301 (vflat ws l), kWr.row a294 c295 l, viewA (ptr b25) ws l, blk b30 (.cells [(.slice ia308 ws.length ic309), (.slice la310 l.length lc311), (.bool mn312)].toArray 44 (0, 0)), kU64.row ia308 ic309 ws] := hs347.front 6 (by simp)
              have hs349 : St B w [] w341 [kU64.row ia308 ic309 ws, kWr.row la310 lc311 l, kU64.row a323 c324 (vflat ws l), kU64.row a300 c301 (vflat ws l), kWr.row a294 c295 l, viewA (ptr b25) ws l, blk b30 (.cells [(.slice ia308 ws.length ic309), (.slice la310 l.length lc311), (.bool mn312)].toArray 44 (0, 0))] := hs348.front 6 (by simp)
              have hs350 : St B w [] w341 [blk b30 (.cells [(.slice ia308 ws.length ic309), (.slice la310 l.length lc311), (.bool mn312)].toArray 44 (0, 0)), kU64.row ia308 ic309 ws, kWr.row la310 lc311 l, kU64.row a323 c324 (vflat ws l), kU64.row a300 c301 (vflat ws l), kWr.row a294 c295 l, viewA (ptr b25) ws l] := hs349.front 6 (by simp)
              have hs351 : St B w [] w341 [refA (ptr b30) ws l, kU64.row a323 c324 (vflat ws l), kU64.row a300 c301 (vflat ws l), kWr.row a294 c295 l, viewA (ptr b25) ws l] := ref_close (l := l) (ia := ia308) (ic := ic309) (la := la310) (lc := lc311) (many := mn312) hok314 hs350
              refine hK306 _ _ ?_
              clear hK306
              refine W.cond (!decide ((ws.length : Int) = (ws.length : Int))) (by kernel_rfl) (fun h352 => ?_) (fun h352 => ?_)
              ·
                have h352p : ¬ ((ws.length : Int) = (ws.length : Int)) := of_decide_eq_false (bnot_true h352)
                refine W.seq fun K353 hK353 => ?_
                refine W.region ?_
                refine ops_run 1 (by kernel_rfl) ?_
                refine ops_done (by kernel_rfl) ?_
                refine hK353 _ _ ?_
                clear hK353
                refine W.ret (ret_seq ?_)
                exfalso; first | contradiction | omega
              ·
                have h352p : (ws.length : Int) = (ws.length : Int) := of_decide_eq_true (bnot_false h352)
                refine W.skip ?_
                refine hK305 _ _ ?_
                clear hK305
                refine W.seq fun K354 hK354 => ?_
                refine W.seq fun K355 hK355 => ?_
                refine W.region ?_
                refine ops_run 1 (by kernel_rfl) ?_
                refine ops_done (by kernel_rfl) ?_
                refine hK355 _ _ ?_
                clear hK355
                refine W.block ?_
                have hs358 : St B w [] w341 [kWr.row a294 c295 l, refA (ptr b30) ws l, kU64.row a323 c324 (vflat ws l), kU64.row a300 c301 (vflat ws l), viewA (ptr b25) ws l] := hs351.front 3 (by simp)
                have hs359 : St B w [] w341 [viewA (ptr b25) ws l, kWr.row a294 c295 l, refA (ptr b30) ws l, kU64.row a323 c324 (vflat ws l), kU64.row a300 c301 (vflat ws l)] := hs358.front 4 (by simp)
                have hs360 : St B w [] w341 [kU64.row a300 c301 (vflat ws l), viewA (ptr b25) ws l, kWr.row a294 c295 l, refA (ptr b30) ws l, kU64.row a323 c324 (vflat ws l)] := hs359.front 4 (by simp)
                have hs361 : St B w [] w341 [kU64.row a323 c324 (vflat ws l), kU64.row a300 c301 (vflat ws l), viewA (ptr b25) ws l, kWr.row a294 c295 l, refA (ptr b30) ws l] := hs360.front 4 (by simp)
                have hs362 : St B w [] w341 [refA (ptr b30) ws l, kU64.row a323 c324 (vflat ws l), kU64.row a300 c301 (vflat ws l), viewA (ptr b25) ws l, kWr.row a294 c295 l] := hs361.front 4 (by simp)
                refine W.loop (G := Nat × List (Int × Int)) (fun | (k3, m), s_, w_ => (∃ us, s_ = slots 186 [(6, (.pointer (some ⟨b25, 0, none⟩))), (7, (.pointer (some ⟨b30, 0, none⟩))), (12, (.slice a294 l.length c295)), (13, (.slice a300 ((vflat ws l).length) c301)), (14, (.int .i64 (k3 : Int)))] us) ∧ St B w [] w_ [refA (ptr b30) ws l, kU64.row a323 c324 (vflat ws l), kU64.row a300 c301 (vflat ws l), viewA (ptr b25) ws l, kWr.row a294 c295 m] ∧ (k3 ≤ l.length) ∧ (m.length = l.length)) (fun | (k3, m) => l.length - k3) (0, l) ⟨slots_intro _ (by kernel_rfl), hs362, Nat.zero_le _, rfl⟩ ?_
                rintro ⟨k3, m⟩ _ w356 ⟨⟨us, rfl⟩, hs357, hkk3, hxk3⟩
                refine W.seq fun K363 hK363 => ?_
                refine W.seq fun K364 hK364 => ?_
                refine W.region ?_
                refine ops_run 4 (by kernel_rfl) ?_
                refine ops_done (by kernel_rfl) ?_
                refine hK364 _ _ ?_
                clear hK364
                refine W.cond (decide ((k3 : Int) < (l.length : Int))) (by kernel_rfl) (fun h365 => ?_) (fun h365 => ?_)
                ·
                  have h365p : (k3 : Int) < (l.length : Int) := of_decide_eq_true h365
                  refine W.skip ?_
                  refine hK363 _ _ ?_
                  clear hK363
                  refine W.seq fun K366 hK366 => ?_
                  refine W.block ?_
                  refine W.region ?_
                  refine ops_run 2 (by kernel_rfl) ?_
                  have hk367 : k3 < l.length := by omega
                  have hk368 : k3 < m.length := (by omega)
                  refine ops_R (runs_index (a := a294) (n := l.length) (z := (k3 : Int)) (size := 2) k3 rfl hk367 (kWr.addr (St.kcells kWr hs357 4 rfl) hk368) (by kernel_rfl)) ?_
                  refine ops_run 1 (by kernel_rfl) ?_
                  refine ops_R (runs_load (ad := ((adr a294 (k3 * 2)).add 1)) (v := (.int .u64 ((m.getD k3 (0, 0)).2))) (by kernel_rfl) (kWr.at (St.kcells kWr hs357 4 rfl) hk368 (0, 0) 1 rfl)) ?_
                  refine ops_val (v := .int .u64 (IntKind.u64.wrap ((m.getD k3 (0, 0)).2 + 1))) (v' := .int .u64 (((m.getD k3 (0, 0)).2 + 1) % 18446744073709551616)) (by kernel_rfl) (congrArg (Value.int .u64) (wrap_u64_mod _)) ?_
                  have hk369 : k3 < l.length := by omega
                  have hk370 : k3 < m.length := (by omega)
                  refine ops_R (runs_index (a := a294) (n := l.length) (z := (k3 : Int)) (size := 2) k3 rfl hk369 (kWr.addr (St.kcells kWr hs357 4 rfl) hk370) (by kernel_rfl)) ?_
                  refine ops_run 1 (by kernel_rfl) ?_
                  have hs373 : St B w [] w356 [kWr.row a294 c295 m, refA (ptr b30) ws l, kU64.row a323 c324 (vflat ws l), kU64.row a300 c301 (vflat ws l), viewA (ptr b25) ws l] := hs357.front 4 (by simp)
                  refine ops_storeK kWr (j := 1) (vs := [(.int .u64 (((m.getD k3 (0, 0)).2 + 1) % 18446744073709551616))]) (0, 0) ((m.getD k3 (0, 0)).1, (((m.getD k3 (0, 0)).2 + 1) % 18446744073709551616)) hs373 hk370 (Nat.le_of_ble_eq_true rfl) (by simp) rfl rfl (by kernel_rfl) (fun w371 hs372 => ?_)
                  refine ops_done (by kernel_rfl) ?_
                  refine normal_block ?_
                  refine hK366 _ _ ?_
                  clear hK366
                  refine W.region ?_
                  refine ops_run 1 (by kernel_rfl) ?_
                  refine ops_val (v := .int .i64 (IntKind.i64.wrap ((k3 : Int) + 1))) (v' := .int .i64 ((k3 + 1 : Nat) : Int)) (by kernel_rfl) (congrArg (Value.int .i64) (wrap_i64 (by omega) (by omega))) ?_
                  refine ops_run 1 (by kernel_rfl) ?_
                  refine ops_done (by kernel_rfl) ?_
                  have hs375 : St B w [] w371 [viewA (ptr b25) ws l, kWr.row a294 c295 (m.set k3 ((m.getD k3 (0, 0)).1, (((m.getD k3 (0, 0)).2 + 1) % 18446744073709551616))), refA (ptr b30) ws l, kU64.row a323 c324 (vflat ws l), kU64.row a300 c301 (vflat ws l)] := hs372.front 4 (by simp)
                  have hs376 : St B w [] w371 [kU64.row a300 c301 (vflat ws l), viewA (ptr b25) ws l, kWr.row a294 c295 (m.set k3 ((m.getD k3 (0, 0)).1, (((m.getD k3 (0, 0)).2 + 1) % 18446744073709551616))), refA (ptr b30) ws l, kU64.row a323 c324 (vflat ws l)] := hs375.front 4 (by simp)
                  have hs377 : St B w [] w371 [kU64.row a323 c324 (vflat ws l), kU64.row a300 c301 (vflat ws l), viewA (ptr b25) ws l, kWr.row a294 c295 (m.set k3 ((m.getD k3 (0, 0)).1, (((m.getD k3 (0, 0)).2 + 1) % 18446744073709551616))), refA (ptr b30) ws l] := hs376.front 4 (by simp)
                  have hs378 : St B w [] w371 [refA (ptr b30) ws l, kU64.row a323 c324 (vflat ws l), kU64.row a300 c301 (vflat ws l), viewA (ptr b25) ws l, kWr.row a294 c295 (m.set k3 ((m.getD k3 (0, 0)).1, (((m.getD k3 (0, 0)).2 + 1) % 18446744073709551616)))] := hs377.front 4 (by simp)
                  exact ⟨(k3 + 1, (m.set k3 ((m.getD k3 (0, 0)).1, (((m.getD k3 (0, 0)).2 + 1) % 18446744073709551616)))), ⟨slots_intro _ (by kernel_rfl), hs378, by omega, (by rw [List.length_set]; exact hxk3)⟩, by first | omega | (dsimp only; omega)⟩
                ·
                  have h365p : ¬ ((k3 : Int) < (l.length : Int)) := of_decide_eq_false h365
                  refine W.exit (exit_seq (exit_seq (exit_here ?_)))
                  refine hK354 _ _ ?_
                  clear hK354
                  refine W.seq fun K379 hK379 => ?_
                  refine W.seq fun K380 hK380 => ?_
                  refine W.region ?_
                  refine ops_run 1 (by kernel_rfl) ?_
                  refine ops_done (by kernel_rfl) ?_
                  refine hK380 _ _ ?_
                  clear hK380
                  refine W.block ?_
                  have hs383 : St B w [] w356 [kU64.row a300 c301 (vflat ws l), refA (ptr b30) ws l, kU64.row a323 c324 (vflat ws l), viewA (ptr b25) ws l, kWr.row a294 c295 m] := hs357.front 2 (by simp)
                  have hs384 : St B w [] w356 [kWr.row a294 c295 m, kU64.row a300 c301 (vflat ws l), refA (ptr b30) ws l, kU64.row a323 c324 (vflat ws l), viewA (ptr b25) ws l] := hs383.front 4 (by simp)
                  have hs385 : St B w [] w356 [viewA (ptr b25) ws l, kWr.row a294 c295 m, kU64.row a300 c301 (vflat ws l), refA (ptr b30) ws l, kU64.row a323 c324 (vflat ws l)] := hs384.front 4 (by simp)
                  have hs386 : St B w [] w356 [kU64.row a323 c324 (vflat ws l), viewA (ptr b25) ws l, kWr.row a294 c295 m, kU64.row a300 c301 (vflat ws l), refA (ptr b30) ws l] := hs385.front 4 (by simp)
                  have hs387 : St B w [] w356 [refA (ptr b30) ws l, kU64.row a323 c324 (vflat ws l), viewA (ptr b25) ws l, kWr.row a294 c295 m, kU64.row a300 c301 (vflat ws l)] := hs386.front 4 (by simp)
                  refine W.loop (G := Nat × List Int) (fun | (k4, ys), s_, w_ => (∃ us, s_ = slots 186 [(6, (.pointer (some ⟨b25, 0, none⟩))), (7, (.pointer (some ⟨b30, 0, none⟩))), (13, (.slice a300 ((vflat ws l).length) c301)), (15, (.int .i64 (k4 : Int)))] us) ∧ St B w [] w_ [refA (ptr b30) ws l, kU64.row a323 c324 (vflat ws l), viewA (ptr b25) ws l, kWr.row a294 c295 m, kU64.row a300 c301 ys] ∧ (k4 ≤ (vflat ws l).length) ∧ (ys.length = (vflat ws l).length)) (fun | (k4, ys) => (vflat ws l).length - k4) (0, (vflat ws l)) ⟨slots_intro _ (by kernel_rfl), hs387, Nat.zero_le _, rfl⟩ ?_
                  rintro ⟨k4, ys⟩ _ w381 ⟨⟨us, rfl⟩, hs382, hkk4, hxk4⟩
                  refine W.seq fun K388 hK388 => ?_
                  refine W.seq fun K389 hK389 => ?_
                  refine W.region ?_
                  refine ops_run 4 (by kernel_rfl) ?_
                  refine ops_done (by kernel_rfl) ?_
                  refine hK389 _ _ ?_
                  clear hK389
                  refine W.cond (decide ((k4 : Int) < (((vflat ws l).length) : Int))) (by kernel_rfl) (fun h390 => ?_) (fun h390 => ?_)
                  ·
                    have h390p : (k4 : Int) < (((vflat ws l).length) : Int) := of_decide_eq_true h390
                    refine W.skip ?_
                    refine hK388 _ _ ?_
                    clear hK388
                    refine W.seq fun K391 hK391 => ?_
                    refine W.block ?_
                    refine W.region ?_
                    refine ops_run 2 (by kernel_rfl) ?_
                    have hk392 : k4 < (vflat ws l).length := by omega
                    have hk393 : k4 < ys.length := (by omega)
                    refine ops_R (runs_index (a := a300) (n := (vflat ws l).length) (z := (k4 : Int)) (size := 1) k4 rfl hk392 (kU64.addr (St.kcells kU64 hs382 4 rfl) hk393) (by kernel_rfl)) ?_
                    refine ops_R (runs_load (ad := ((adr a300 (k4 * 1)).add 0)) (v := (.int .u64 (ys.getD k4 0))) (by kernel_rfl) (kU64.at (St.kcells kU64 hs382 4 rfl) hk393 0 0 rfl)) ?_
                    refine ops_val (v := .int .u64 (IntKind.u64.wrap ((ys.getD k4 0) + 1))) (v' := .int .u64 (((ys.getD k4 0) + 1) % 18446744073709551616)) (by kernel_rfl) (congrArg (Value.int .u64) (wrap_u64_mod _)) ?_
                    have hk394 : k4 < (vflat ws l).length := by omega
                    have hk395 : k4 < ys.length := (by omega)
                    refine ops_R (runs_index (a := a300) (n := (vflat ws l).length) (z := (k4 : Int)) (size := 1) k4 rfl hk394 (kU64.addr (St.kcells kU64 hs382 4 rfl) hk395) (by kernel_rfl)) ?_
                    have hs398 : St B w [] w381 [kU64.row a300 c301 ys, refA (ptr b30) ws l, kU64.row a323 c324 (vflat ws l), viewA (ptr b25) ws l, kWr.row a294 c295 m] := hs382.front 4 (by simp)
                    refine ops_storeK kU64 (j := 0) (vs := [(.int .u64 (((ys.getD k4 0) + 1) % 18446744073709551616))]) 0 (((ys.getD k4 0) + 1) % 18446744073709551616) hs398 hk395 (Nat.le_of_ble_eq_true rfl) (by simp) rfl rfl (by kernel_rfl) (fun w396 hs397 => ?_)
                    refine ops_done (by kernel_rfl) ?_
                    refine normal_block ?_
                    refine hK391 _ _ ?_
                    clear hK391
                    refine W.region ?_
                    refine ops_run 1 (by kernel_rfl) ?_
                    refine ops_val (v := .int .i64 (IntKind.i64.wrap ((k4 : Int) + 1))) (v' := .int .i64 ((k4 + 1 : Nat) : Int)) (by kernel_rfl) (congrArg (Value.int .i64) (wrap_i64 (by omega) (by omega))) ?_
                    refine ops_run 1 (by kernel_rfl) ?_
                    refine ops_done (by kernel_rfl) ?_
                    have hs400 : St B w [] w396 [kWr.row a294 c295 m, kU64.row a300 c301 (ys.set k4 (((ys.getD k4 0) + 1) % 18446744073709551616)), refA (ptr b30) ws l, kU64.row a323 c324 (vflat ws l), viewA (ptr b25) ws l] := hs397.front 4 (by simp)
                    have hs401 : St B w [] w396 [viewA (ptr b25) ws l, kWr.row a294 c295 m, kU64.row a300 c301 (ys.set k4 (((ys.getD k4 0) + 1) % 18446744073709551616)), refA (ptr b30) ws l, kU64.row a323 c324 (vflat ws l)] := hs400.front 4 (by simp)
                    have hs402 : St B w [] w396 [kU64.row a323 c324 (vflat ws l), viewA (ptr b25) ws l, kWr.row a294 c295 m, kU64.row a300 c301 (ys.set k4 (((ys.getD k4 0) + 1) % 18446744073709551616)), refA (ptr b30) ws l] := hs401.front 4 (by simp)
                    have hs403 : St B w [] w396 [refA (ptr b30) ws l, kU64.row a323 c324 (vflat ws l), viewA (ptr b25) ws l, kWr.row a294 c295 m, kU64.row a300 c301 (ys.set k4 (((ys.getD k4 0) + 1) % 18446744073709551616))] := hs402.front 4 (by simp)
                    exact ⟨(k4 + 1, (ys.set k4 (((ys.getD k4 0) + 1) % 18446744073709551616))), ⟨slots_intro _ (by kernel_rfl), hs403, by omega, (by rw [List.length_set]; exact hxk4)⟩, by first | omega | (dsimp only; omega)⟩
                  ·
                    have h390p : ¬ ((k4 : Int) < (((vflat ws l).length) : Int)) := of_decide_eq_false h390
                    refine W.exit (exit_seq (exit_seq (exit_here ?_)))
                    refine hK379 _ _ ?_
                    clear hK379
                    refine W.seq fun K404 hK404 => ?_
                    obtain ⟨⟨_, ia405, ic406, la407, lc408, mn409⟩, ⟨ex410, hok411⟩, hs412⟩ := St.open hs382
                    have hs413 : St B w [] w381 [blk b30 (.cells [(.slice ia405 ws.length ic406), (.slice la407 l.length lc408), (.bool mn409)].toArray 44 (0, 0)), kU64.row ia405 ic406 ws, kWr.row la407 lc408 l, kU64.row a323 c324 (vflat ws l), viewA (ptr b25) ws l, kWr.row a294 c295 m, kU64.row a300 c301 ys] := by cases ex410; exact hs412
                    have := hok411.many
                    have hs414 := hs413.drew
                    have hs415 : St B w [] w381.drew [blk b30 (.cells [(.slice ia405 ws.length ic406), (.slice la407 l.length lc408), (.bool mn409)].toArray 44 (0, 0))] := St.take (H := [blk b30 (.cells [(.slice ia405 ws.length ic406), (.slice la407 l.length lc408), (.bool mn409)].toArray 44 (0, 0))]) hs414
                    refine W.regionD (fun w_ => St B w [] w_ [blk b30 (.cells [(.slice ia405 ws.length ic406), (.slice la407 l.length lc408), (.bool mn409)].toArray 44 (0, 0))]) (by kernel_rfl) hs415 ?_
                    refine any_val (v := (.pointer (some ⟨b25, 0, none⟩))) (v' := (.pointer (some ⟨b25, 0, none⟩))) 0 (by kernel_rfl) (fun _ => by kernel_rfl) rfl hs415 ?_
                    refine any_val (v := (.pointer (some ⟨b30, 0, none⟩))) (v' := (.pointer (some ⟨b30, 0, none⟩))) 2 (by kernel_rfl) (fun _ => by kernel_rfl) rfl hs415 ?_
                    refine any_val (v := (.pointer (some ⟨b30, 0, none⟩))) (v' := (.pointer (some ⟨b30, 0, none⟩))) 3 (by kernel_rfl) (fun _ => by kernel_rfl) rfl hs415 ?_
                    refine any_val (v := (.pointer (some ⟨b30, 1, none⟩))) (v' := (.pointer (some ⟨b30, 1, none⟩))) 4 (by kernel_rfl) (fun _ => by kernel_rfl) rfl hs415 ?_
                    refine any_R 5 (by kernel_rfl) (fun _ hS_ => runs_load (ad := ⟨b30, 1, none⟩) (v := (.slice la407 l.length lc408)) (by kernel_rfl) (hS_.cellAt 0 rfl rfl)) hs415 ?_
                    refine any_step 1 (by kernel_rfl) (by kernel_rfl) ?_
                    refine ops_call (pre := []) hs414 (by kernel_rfl) (writes_spec (hv := (hs414.entAt 4 rfl viewA_at)) B _) ?_
                    rintro _ _ w418 ⟨a416, c417, rfl, rfl⟩ hs419
                    have hs420 : St B w [] w418 [kWr.row a416 c417 l, blk b30 (.cells [(.slice ia405 ws.length ic406), (.slice la407 l.length lc408), (.bool mn409)].toArray 44 (0, 0)), kU64.row ia405 ic406 ws, kWr.row la407 lc408 l, kU64.row a323 c324 (vflat ws l), viewA (ptr b25) ws l, kWr.row a294 c295 m, kU64.row a300 c301 ys] := hs419
                    have hs421 : St B w [] w418 [blk b30 (.cells [(.slice ia405 ws.length ic406), (.slice la407 l.length lc408), (.bool mn409)].toArray 44 (0, 0)), kWr.row a416 c417 l, kU64.row ia405 ic406 ws, kWr.row la407 lc408 l, kU64.row a323 c324 (vflat ws l), viewA (ptr b25) ws l, kWr.row a294 c295 m, kU64.row a300 c301 ys] := hs420.front 1 (by simp)
                    have hs422 : St B w [] w418 [blk b30 (.cells [(.slice ia405 ws.length ic406), (.slice la407 l.length lc408), (.bool mn409)].toArray 44 (0, 0))] := St.take (H := [blk b30 (.cells [(.slice ia405 ws.length ic406), (.slice la407 l.length lc408), (.bool mn409)].toArray 44 (0, 0))]) hs421
                    refine ops_done (by kernel_rfl) ⟨hs422, ?_⟩
                    refine any_step 6 (by kernel_rfl) (by kernel_rfl) ?_
                    refine ops_call (pre := []) hs420 (by kernel_rfl) (same05_spec (xs := l) (ys := l) (xc := c417) (yc := lc408) (n := l.length) (m := l.length) (hn := rfl) (hm := rfl) (hx := (St.kcells kWr hs420 0 rfl)) (hy := (St.kcells kWr hs420 3 rfl)) (hsz := (by omega)) B _) ?_
                    rintro _ _ w423 ⟨rfl, rfl⟩ hs424
                    have hs425 : St B w [] w423 [kWr.row a416 c417 l, blk b30 (.cells [(.slice ia405 ws.length ic406), (.slice la407 l.length lc408), (.bool mn409)].toArray 44 (0, 0)), kU64.row ia405 ic406 ws, kWr.row la407 lc408 l, kU64.row a323 c324 (vflat ws l), viewA (ptr b25) ws l, kWr.row a294 c295 m, kU64.row a300 c301 ys] := hs424
                    have hs426 : St B w [] w423 [blk b30 (.cells [(.slice ia405 ws.length ic406), (.slice la407 l.length lc408), (.bool mn409)].toArray 44 (0, 0)), kWr.row a416 c417 l, kU64.row ia405 ic406 ws, kWr.row la407 lc408 l, kU64.row a323 c324 (vflat ws l), viewA (ptr b25) ws l, kWr.row a294 c295 m, kU64.row a300 c301 ys] := hs425.front 1 (by simp)
                    have hs427 : St B w [] w423 [blk b30 (.cells [(.slice ia405 ws.length ic406), (.slice la407 l.length lc408), (.bool mn409)].toArray 44 (0, 0))] := St.take (H := [blk b30 (.cells [(.slice ia405 ws.length ic406), (.slice la407 l.length lc408), (.bool mn409)].toArray 44 (0, 0))]) hs426
                    refine ops_done (by kernel_rfl) ⟨hs427, ?_⟩
                    refine any_val (v := (.bool (decide (l = l)))) (v' := (.bool (decide (l = l)))) 7 (by kernel_rfl) (fun _ => by kernel_rfl) rfl hs427 ?_
                    rcases Bool.eq_false_or_eq_true (decide (l = l)) with h428 | h428
                    ·
                      have h428p : l = l := of_decide_eq_true h428
                      refine any_set 175 (v := .bool true) (eq_bool_of (by kernel_rfl) h428) ?_
                      refine any_set 176 (v := .bool true) (eq_bool_of (by kernel_rfl) h428) ?_
                      refine any_val (v := (.pointer (some ⟨b25, 0, none⟩))) (v' := (.pointer (some ⟨b25, 0, none⟩))) 8 (by kernel_rfl) (fun _ => by kernel_rfl) rfl hs427 ?_
                      refine any_val (v := (.pointer (some ⟨b30, 0, none⟩))) (v' := (.pointer (some ⟨b30, 0, none⟩))) 10 (by kernel_rfl) (fun _ => by kernel_rfl) rfl hs427 ?_
                      refine any_step 9 (by kernel_rfl) (by kernel_rfl) ?_
                      refine ops_call (pre := []) hs425 (by kernel_rfl) (flat_spec (hv := (hs425.entAt 5 rfl viewA_at)) B _) ?_
                      rintro _ _ w431 ⟨a429, c430, rfl, rfl⟩ hs432
                      have hs433 : St B w [] w431 [kU64.row a429 c430 (vflat ws l), kWr.row a416 c417 l, blk b30 (.cells [(.slice ia405 ws.length ic406), (.slice la407 l.length lc408), (.bool mn409)].toArray 44 (0, 0)), kU64.row ia405 ic406 ws, kWr.row la407 lc408 l, kU64.row a323 c324 (vflat ws l), viewA (ptr b25) ws l, kWr.row a294 c295 m, kU64.row a300 c301 ys] := hs432
                      have hs434 : St B w [] w431 [blk b30 (.cells [(.slice ia405 ws.length ic406), (.slice la407 l.length lc408), (.bool mn409)].toArray 44 (0, 0)), kU64.row a429 c430 (vflat ws l), kWr.row a416 c417 l, kU64.row ia405 ic406 ws, kWr.row la407 lc408 l, kU64.row a323 c324 (vflat ws l), viewA (ptr b25) ws l, kWr.row a294 c295 m, kU64.row a300 c301 ys] := hs433.front 2 (by simp)
                      have hs435 : St B w [] w431 [blk b30 (.cells [(.slice ia405 ws.length ic406), (.slice la407 l.length lc408), (.bool mn409)].toArray 44 (0, 0))] := St.take (H := [blk b30 (.cells [(.slice ia405 ws.length ic406), (.slice la407 l.length lc408), (.bool mn409)].toArray 44 (0, 0))]) hs434
                      refine ops_done (by kernel_rfl) ⟨hs435, ?_⟩
                      refine any_step 11 (by kernel_rfl) (by kernel_rfl) ?_
                      refine ops_call (pre := []) hs433 (by kernel_rfl) (rflat_spec (hv := (show RefAt (ptr b30) ws l _ from ⟨⟨b30, ia405, ic406, la407, lc408, mn409⟩, rfl, hok411, hs433.heapAt 2 rfl, St.kcells kU64 hs433 3 rfl, St.kcells kWr hs433 4 rfl, St.capnil kU64 hs433 3 rfl⟩)) B _) ?_
                      rintro _ _ w438 ⟨a436, c437, rfl, rfl⟩ hs439
                      have hs440 : St B w [] w438 [kU64.row a436 c437 (vflat ws l), kU64.row a429 c430 (vflat ws l), kWr.row a416 c417 l, blk b30 (.cells [(.slice ia405 ws.length ic406), (.slice la407 l.length lc408), (.bool mn409)].toArray 44 (0, 0)), kU64.row ia405 ic406 ws, kWr.row la407 lc408 l, kU64.row a323 c324 (vflat ws l), viewA (ptr b25) ws l, kWr.row a294 c295 m, kU64.row a300 c301 ys] := hs439
                      have hs441 : St B w [] w438 [blk b30 (.cells [(.slice ia405 ws.length ic406), (.slice la407 l.length lc408), (.bool mn409)].toArray 44 (0, 0)), kU64.row a436 c437 (vflat ws l), kU64.row a429 c430 (vflat ws l), kWr.row a416 c417 l, kU64.row ia405 ic406 ws, kWr.row la407 lc408 l, kU64.row a323 c324 (vflat ws l), viewA (ptr b25) ws l, kWr.row a294 c295 m, kU64.row a300 c301 ys] := hs440.front 3 (by simp)
                      have hs442 : St B w [] w438 [blk b30 (.cells [(.slice ia405 ws.length ic406), (.slice la407 l.length lc408), (.bool mn409)].toArray 44 (0, 0))] := St.take (H := [blk b30 (.cells [(.slice ia405 ws.length ic406), (.slice la407 l.length lc408), (.bool mn409)].toArray 44 (0, 0))]) hs441
                      refine ops_done (by kernel_rfl) ⟨hs442, ?_⟩
                      refine any_step 12 (by kernel_rfl) (by kernel_rfl) ?_
                      refine ops_call (pre := []) hs440 (by kernel_rfl) (same03_spec (xs := (vflat ws l)) (ys := (vflat ws l)) (xc := c430) (yc := c437) (n := (vflat ws l).length) (m := (vflat ws l).length) (hn := rfl) (hm := rfl) (hx := (St.kcells kU64 hs440 1 rfl)) (hy := (St.kcells kU64 hs440 0 rfl)) (hsz := (by omega)) B _) ?_
                      rintro _ _ w443 ⟨rfl, rfl⟩ hs444
                      have hs445 : St B w [] w443 [kU64.row a436 c437 (vflat ws l), kU64.row a429 c430 (vflat ws l), kWr.row a416 c417 l, blk b30 (.cells [(.slice ia405 ws.length ic406), (.slice la407 l.length lc408), (.bool mn409)].toArray 44 (0, 0)), kU64.row ia405 ic406 ws, kWr.row la407 lc408 l, kU64.row a323 c324 (vflat ws l), viewA (ptr b25) ws l, kWr.row a294 c295 m, kU64.row a300 c301 ys] := hs444
                      have hs446 : St B w [] w443 [blk b30 (.cells [(.slice ia405 ws.length ic406), (.slice la407 l.length lc408), (.bool mn409)].toArray 44 (0, 0)), kU64.row a436 c437 (vflat ws l), kU64.row a429 c430 (vflat ws l), kWr.row a416 c417 l, kU64.row ia405 ic406 ws, kWr.row la407 lc408 l, kU64.row a323 c324 (vflat ws l), viewA (ptr b25) ws l, kWr.row a294 c295 m, kU64.row a300 c301 ys] := hs445.front 3 (by simp)
                      have hs447 : St B w [] w443 [blk b30 (.cells [(.slice ia405 ws.length ic406), (.slice la407 l.length lc408), (.bool mn409)].toArray 44 (0, 0))] := St.take (H := [blk b30 (.cells [(.slice ia405 ws.length ic406), (.slice la407 l.length lc408), (.bool mn409)].toArray 44 (0, 0))]) hs446
                      refine ops_done (by kernel_rfl) ⟨hs447, ?_⟩
                      refine any_val (v := (.bool (decide ((vflat ws l) = (vflat ws l))))) (v' := (.bool (decide ((vflat ws l) = (vflat ws l))))) 13 (by kernel_rfl) (fun _ => by kernel_rfl) rfl hs447 ?_
                      refine any_val (v := (.bool (decide ((vflat ws l) = (vflat ws l))))) (v' := (.bool (decide ((vflat ws l) = (vflat ws l))))) 14 (by kernel_rfl) (fun _ => by kernel_rfl) rfl hs447 ?_
                      rcases Bool.eq_false_or_eq_true (decide ((vflat ws l) = (vflat ws l))) with h448 | h448
                      ·
                        have h448p : (vflat ws l) = (vflat ws l) := of_decide_eq_true h448
                        refine any_set 181 (v := .bool true) (eq_bool_of (by kernel_rfl) h448) ?_
                        refine any_set 182 (v := .bool true) (eq_bool_of (by kernel_rfl) h448) ?_
                        refine any_set 183 (v := .bool true) (eq_bool_of (by kernel_rfl) h448) ?_
                        refine any_step 15 (by kernel_rfl) (by kernel_rfl) ?_
                        refine ops_call (pre := []) hs445 (by kernel_rfl) (works5_spec B _) ?_
                        rintro _ _ w449 ⟨rfl, rfl⟩ hs450
                        have hs451 : St B w [] w449 [kU64.row a436 c437 (vflat ws l), kU64.row a429 c430 (vflat ws l), kWr.row a416 c417 l, blk b30 (.cells [(.slice ia405 ws.length ic406), (.slice la407 l.length lc408), (.bool mn409)].toArray 44 (0, 0)), kU64.row ia405 ic406 ws, kWr.row la407 lc408 l, kU64.row a323 c324 (vflat ws l), viewA (ptr b25) ws l, kWr.row a294 c295 m, kU64.row a300 c301 ys] := hs450
                        have hs452 : St B w [] w449 [blk b30 (.cells [(.slice ia405 ws.length ic406), (.slice la407 l.length lc408), (.bool mn409)].toArray 44 (0, 0)), kU64.row a436 c437 (vflat ws l), kU64.row a429 c430 (vflat ws l), kWr.row a416 c417 l, kU64.row ia405 ic406 ws, kWr.row la407 lc408 l, kU64.row a323 c324 (vflat ws l), viewA (ptr b25) ws l, kWr.row a294 c295 m, kU64.row a300 c301 ys] := hs451.front 3 (by simp)
                        have hs453 : St B w [] w449 [blk b30 (.cells [(.slice ia405 ws.length ic406), (.slice la407 l.length lc408), (.bool mn409)].toArray 44 (0, 0))] := St.take (H := [blk b30 (.cells [(.slice ia405 ws.length ic406), (.slice la407 l.length lc408), (.bool mn409)].toArray 44 (0, 0))]) hs452
                        refine ops_done (by kernel_rfl) ⟨hs453, ?_⟩
                        refine any_val (v := (.bool true)) (v' := (.bool true)) 16 (by kernel_rfl) (fun _ => by kernel_rfl) rfl hs453 ?_
                        refine any_val (v := (.bool true)) (v' := (.bool true)) 17 (by kernel_rfl) (fun _ => by kernel_rfl) rfl hs453 ?_
                        refine any_done (by kernel_rfl) ?_
                        refine hK404 _ _ ?_
                        clear hK404
                        refine W.ret ?_
                        have hs454 : St B w [] w449 [] := St.take (H := []) hs451
                        refine ret_of (.bool true) (by kernel_rfl) ⟨_, ⟨rfl, rfl⟩, hs454⟩
                      ·
                        have h448p : ¬ ((vflat ws l) = (vflat ws l)) := of_decide_eq_false h448
                        refine any_set 181 (v := .bool false) (eq_bool_of (by kernel_rfl) h448) ?_
                        refine any_set 182 (v := .bool false) (eq_bool_of (by kernel_rfl) h448) ?_
                        refine any_set 183 (v := .bool false) (eq_bool_of (by kernel_rfl) h448) ?_
                        refine any_skip 15 (by kernel_rfl) rfl (by kernel_rfl) hs447 ?_
                        refine any_val (v := (.bool false)) (v' := (.bool false)) 16 (by kernel_rfl) (fun _ => by kernel_rfl) rfl hs447 ?_
                        refine any_val (v := (.bool false)) (v' := (.bool false)) 17 (by kernel_rfl) (fun _ => by kernel_rfl) rfl hs447 ?_
                        refine any_done (by kernel_rfl) ?_
                        refine hK404 _ _ ?_
                        clear hK404
                        refine W.ret ?_
                        exfalso; first | contradiction | omega
                    ·
                      have h428p : ¬ (l = l) := of_decide_eq_false h428
                      refine any_set 175 (v := .bool false) (eq_bool_of (by kernel_rfl) h428) ?_
                      refine any_set 176 (v := .bool false) (eq_bool_of (by kernel_rfl) h428) ?_
                      refine any_skip 8 (by kernel_rfl) rfl (by kernel_rfl) hs427 ?_
                      refine any_skip 9 (by kernel_rfl) rfl (by kernel_rfl) hs427 ?_
                      refine any_skip 10 (by kernel_rfl) rfl (by kernel_rfl) hs427 ?_
                      refine any_skip 11 (by kernel_rfl) rfl (by kernel_rfl) hs427 ?_
                      refine any_skip 12 (by kernel_rfl) rfl (by kernel_rfl) hs427 ?_
                      refine any_val (v := (.bool false)) (v' := (.bool false)) 13 (by kernel_rfl) (fun _ => by kernel_rfl) rfl hs427 ?_
                      refine any_val (v := (.bool false)) (v' := (.bool false)) 14 (by kernel_rfl) (fun _ => by kernel_rfl) rfl hs427 ?_
                      refine any_skip 15 (by kernel_rfl) rfl (by kernel_rfl) hs427 ?_
                      refine any_val (v := (.bool false)) (v' := (.bool false)) 16 (by kernel_rfl) (fun _ => by kernel_rfl) rfl hs427 ?_
                      refine any_val (v := (.bool false)) (v' := (.bool false)) 17 (by kernel_rfl) (fun _ => by kernel_rfl) rfl hs427 ?_
                      refine any_done (by kernel_rfl) ?_
                      refine hK404 _ _ ?_
                      clear hK404
                      refine W.ret ?_
                      exfalso; first | contradiction | omega

end Go.Proofs.Ythimamnblklkbaa
