/- What the code computes, by a program. -/
import Derived.Test.YthimamnblklkbaaDoorA7t
import Derived.Test.YthimamnblklkbaaDoorGC
namespace Go.Proofs.YthimamnblklkbaaDoor
open Go Go.RowKit
set_option linter.unusedSimpArgs false
set_option linter.unusedVariables false

def allocleast_J3 (b_ : Int) (q47 : List Int) : Option (Bool) :=
  (taken_M q47 1 2 (2 + b_.tmod 30)).bind fun r53 =>
if r53.2.2.2 = true then (if r53.2.2.1 = 7 then (if r53.2.1 = 0 then ((works07_M).bind fun r62 =>
some r62) else (some false)) else (some false)) else (some false)

def allocleast_B2 (b_ : Int) (q42 : List Bool) (k77 : ((List Int) × Int) → Option (Bool)) (q75 : List Int) (p76 : Int) : Option (Bool) :=
  if p76 < (2 + b_.tmod 30) then (need (0 ≤ p76 ∧ p76 < 32) <|
need (q42.length = 32) <|
if (q42.getD p76.toNat false) = true then ((taken_M q75 1 2 (2 + b_.tmod 30)).bind fun r95 =>
if r95.2.2.2 = true then (if r95.2.2.1 = 0 then (if r95.2.1 = p76 then (need (-9223372036854775808 ≤ (p76 + 1) ∧ (p76 + 1) ≤ 9223372036854775807) <|
k77 (r95.1, (p76 + 1))) else (some false)) else (some false)) else (some false)) else (need (-9223372036854775808 ≤ (p76 + 1) ∧ (p76 + 1) ≤ 9223372036854775807) <|
k77 (q75, (p76 + 1)))) else (allocleast_J3 b_ q75)

def allocleast_J2 (b_ : Int) (q41 : List Int) (q42 : List Bool) : Option (Bool) :=
  iter (fun k_ s_ => allocleast_B2 b_ q42 k_ s_.1 s_.2) FUEL (q41, 1)

def allocleast_J6 (b_ : Int) (ls : List Int) (k123 : ((List Int) × (List Bool) × Int) → Option (Bool)) (q121 : List Bool) (p122 : Int) (r144 : List Int × Int × Bool) : Option (Bool) :=
  need (0 ≤ (1 + ((ls.getD p122.toNat 0).tmod ((2 + b_.tmod 30) - 1))) ∧ (1 + ((ls.getD p122.toNat 0).tmod ((2 + b_.tmod 30) - 1))) < 32) <|
need (q121.length = 32) <|
need (-9223372036854775808 ≤ (p122 + 1) ∧ (p122 + 1) ≤ 9223372036854775807) <|
k123 (r144.1, (q121.set ((1 + ((ls.getD p122.toNat 0).tmod ((2 + b_.tmod 30) - 1))).toNat) true), (p122 + 1))

def allocleast_B1 (b_ : Int) (ls : List Int) (k123 : ((List Int) × (List Bool) × Int) → Option (Bool)) (q120 : List Int) (q121 : List Bool) (p122 : Int) : Option (Bool) :=
  if p122 < (ls.length : Int) then (need (0 ≤ p122 ∧ p122 < (ls.length : Int)) <|
need (-9223372036854775808 ≤ (ls.getD p122.toNat 0) ∧ (ls.getD p122.toNat 0) ≤ 9223372036854775807) <|
need (-9223372036854775808 ≤ ((2 + b_.tmod 30) - 1) ∧ ((2 + b_.tmod 30) - 1) ≤ 9223372036854775807) <|
need (¬ (((2 + b_.tmod 30) - 1) = 0)) <|
need (-9223372036854775808 ≤ (1 + ((ls.getD p122.toNat 0).tmod ((2 + b_.tmod 30) - 1))) ∧ (1 + ((ls.getD p122.toNat 0).tmod ((2 + b_.tmod 30) - 1))) ≤ 9223372036854775807) <|
(given_M q120 1 2 (2 + b_.tmod 30) (1 + ((ls.getD p122.toNat 0).tmod ((2 + b_.tmod 30) - 1)))).bind fun r144 =>
if r144.2.2 = true then (need (0 ≤ (1 + ((ls.getD p122.toNat 0).tmod ((2 + b_.tmod 30) - 1))) ∧ (1 + ((ls.getD p122.toNat 0).tmod ((2 + b_.tmod 30) - 1))) < 32) <|
need (q121.length = 32) <|
if ((r144.2.1 = 0) ↔ ((q121.getD ((1 + ((ls.getD p122.toNat 0).tmod ((2 + b_.tmod 30) - 1))).toNat) false) = true)) then (some false) else (if r144.2.1 = 0 then (allocleast_J6 b_ ls k123 q121 p122 r144) else (if r144.2.1 = 3 then (allocleast_J6 b_ ls k123 q121 p122 r144) else (some false)))) else (some false)) else (allocleast_J2 b_ q120 q121)

def allocleast_J1 (b_ : Int) (ls : List Int) (q29 : List Int) : Option (Bool) :=
  iter (fun k_ s_ => allocleast_B1 b_ ls k_ s_.1 s_.2.1 s_.2.2) FUEL (q29, (List.replicate 32 false), 0)

def allocleast_B0 (b_ : Int) (ls : List Int) (k191 : ((List Int) × Int) → Option (Bool)) (q189 : List Int) (p190 : Int) : Option (Bool) :=
  if p190 < (2 + b_.tmod 30) then ((taken_M q189 1 2 (2 + b_.tmod 30)).bind fun r203 =>
if r203.2.2.2 = true then (if r203.2.2.1 = 0 then (if r203.2.1 = p190 then (need (-9223372036854775808 ≤ (p190 + 1) ∧ (p190 + 1) ≤ 9223372036854775807) <|
k191 (r203.1, (p190 + 1))) else (some false)) else (some false)) else (some false)) else (allocleast_J1 b_ ls q189)

def allocleast_M (b_ : Int) (ls : List Int) : Option (Bool) :=
  if (ls.length : Int) > 30 then ((works07_M).bind fun r6 =>
some r6) else (need (-9223372036854775808 ≤ b_ ∧ b_ ≤ 9223372036854775807) <|
need (-9223372036854775808 ≤ (2 + b_.tmod 30) ∧ (2 + b_.tmod 30) ≤ 9223372036854775807) <|
iter (fun k_ s_ => allocleast_B0 b_ ls k_ s_.1 s_.2) FUEL ((fmtW 1 2 (2 + b_.tmod 30)), 1))

set_option maxRecDepth 20000 in
set_option maxHeartbeats 4000000 in
set_option linter.unusedVariables false in
theorem allocleast_walk {b_ : Int} {ls : List Int} {la : Option Addr} {lc : Nat}  (B : Nat) (w : World) (hB : w.heap.size = B) (hT : CellsAt (some ⟨0, 0, none⟩) tab8 w) (hl : CellsAt la (kU8.cells ls) w) (hm : allocleast_M b_ ls = some true) : Spec Tryd.prog 15 #[(.int .u8 b_), (.slice la ls.length lc)] B w [] (fun v H' => v = .bool true ∧ H' = []) := by
  refine spec_Q Tryd.func15 rfl fun hs => ?_
  unfold allocleast_M at hm
  have hG : 0 < B := by rw [← hB]; exact lt_of_cells hT (v := .int .u8 0) (by kernel_rfl)
  refine W.seq fun K1 hK1 => ?_
  refine W.region ?_
  refine ops_run 1 (by kernel_rfl) ?_
  refine ops_done (by kernel_rfl) ?_
  refine hK1 _ _ ?_
  clear hK1
  refine W.seq fun K2 hK2 => ?_
  refine W.seq fun K3 hK3 => ?_
  refine W.region ?_
  refine ops_run 3 (by kernel_rfl) ?_
  refine ops_done (by kernel_rfl) ?_
  refine hK3 _ _ ?_
  clear hK3
  refine W.cond (decide ((ls.length : Int) > 30)) (by kernel_rfl) (fun h4 => ?_) (fun h4 => ?_)
  ·
    have h4p : (ls.length : Int) > 30 := of_decide_eq_true h4
    replace hm := ite_yes hm h4p
    refine W.seq fun K5 hK5 => ?_
    refine W.region ?_
    obtain ⟨r6, h7, hm⟩ := bind_some hm
    refine ops_call0 hs (by kernel_rfl) (works07_walk (hG := hG) (hT := (hs.oldCells hT)) (hm := h7) B _) ?_
    rintro _ _ w9 ⟨rfl, rfl⟩ hs10
    have hs11 := St.ap0 hs10
    refine ops_run 1 (by kernel_rfl) ?_
    refine ops_done (by kernel_rfl) ?_
    refine hK5 _ _ ?_
    clear hK5
    refine W.ret (ret_seq ?_)
    refine ret_of (.bool r6) (by kernel_rfl) ⟨_, ⟨congrArg Value.bool (some_inj hm), rfl⟩, hs11⟩
  ·
    have h4p : ¬ ((ls.length : Int) > 30) := of_decide_eq_false h4
    replace hm := ite_no hm h4p
    refine W.skip ?_
    refine hK2 _ _ ?_
    clear hK2
    refine W.seq fun K12 hK12 => ?_
    refine W.region ?_
    refine ops_run 1 (by kernel_rfl) ?_
    obtain ⟨h13, hm⟩ := need_some hm
    refine ops_val (v := .int .i64 (IntKind.i64.wrap b_)) (v' := .int .i64 b_) (by kernel_rfl) (congrArg (Value.int .i64) (wrap_i64 h13.1 h13.2)) ?_
    refine ops_run 1 (by kernel_rfl) ?_
    obtain ⟨h14, hm⟩ := need_some hm
    refine ops_val (v := .int .i64 (IntKind.i64.wrap (2 + b_.tmod 30))) (v' := .int .i64 (2 + b_.tmod 30)) (by kernel_rfl) (congrArg (Value.int .i64) (wrap_i64 h14.1 h14.2)) ?_
    refine ops_run 1 (by kernel_rfl) ?_
    refine ops_new (fun b => .pointer (some ⟨b, 0, none⟩)) (.cells [(.int .i64 0), (.int .i64 0), (.int .i64 0)].toArray 63 (0, 0)) hs (by kernel_rfl) (fun b17 w15 hs16 => ?_)
    refine ops_store (off := 0) (cs := [(.int .i64 0), (.int .i64 0), (.int .i64 0)]) (vs := [(.int .i64 1), (.int .i64 2), (.int .i64 (2 + b_.tmod 30))]) hs16 (by kernel_rfl) (by simp) rfl (fun w18 hs19 => ?_)
    have hs20 : St B w [] w18 [blk b17 (.cells [(.int .i64 1), (.int .i64 2), (.int .i64 (2 + b_.tmod 30))].toArray 63 (0, 0))] := hs19
    refine ops_done (by kernel_rfl) ?_
    refine hK12 _ _ ?_
    clear hK12
    refine W.seq fun K21 hK21 => ?_
    refine W.region ?_
    refine ops_R (runs_loadAgg (ad := ⟨b17, 0, none⟩) (cs := [(.int .i64 1), (.int .i64 2), (.int .i64 (2 + b_.tmod 30))]) (by kernel_rfl) (cells_sub (hs20.heapAt 0 rfl) rfl)) ?_
    refine ops_call0 hs20 (by kernel_rfl) (lformat_spec (gw := 1) (gi := 2) (gb := (2 + b_.tmod 30)) B _) ?_
    rintro _ _ w24 ⟨a22, c23, rfl, rfl⟩ hs25
    have hs26 := St.ap1 hs25
    refine ops_run 1 (by kernel_rfl) ?_
    refine ops_done (by kernel_rfl) ?_
    refine hK21 _ _ ?_
    clear hK21
    refine W.seq_join (fun s_ w_ => ∃ (q29 : List Int) (m27 : Option Addr) (m28 : Nat), (∃ us, s_ = slots 159 [(1, (.slice la ls.length lc)), (5, (.pointer (some ⟨b17, 0, none⟩))), (6, (.slice m27 q29.length m28))] us) ∧ St B w [] w_ [blk b17 (.cells [(.int .i64 1), (.int .i64 2), (.int .i64 (2 + b_.tmod 30))].toArray 63 (0, 0)), kU64.row m27 m28 q29] ∧ allocleast_J1 b_ ls q29 = some true) ?_ ?_
    ·
      rintro _ w30 ⟨q29, m27, m28, ⟨us, rfl⟩, hs31, hm⟩
      unfold allocleast_J1 at hm
      refine W.seq fun K32 hK32 => ?_
      refine W.region ?_
      refine ops_new (fun b => .pointer (some ⟨b, 0, none⟩)) (.cells (kBool.cells (List.replicate 32 false)).toArray 125 (0, 0)) hs31 (by kernel_rfl) (fun b38 w36 hs37 => ?_)
      refine ops_done (by kernel_rfl) ?_
      refine hK32 _ _ ?_
      clear hK32
      refine W.seq_join (fun s_ w_ => ∃ (q41 : List Int) (q42 : List Bool) (m39 : Option Addr) (m40 : Nat), (∃ us, s_ = slots 159 [(5, (.pointer (some ⟨b17, 0, none⟩))), (6, (.slice m39 q41.length m40)), (12, (.pointer (some ⟨b38, 0, none⟩)))] us) ∧ St B w [] w_ [blk b17 (.cells [(.int .i64 1), (.int .i64 2), (.int .i64 (2 + b_.tmod 30))].toArray 63 (0, 0)), kU64.row m39 m40 q41, blk b38 (.cells (kBool.cells q42).toArray 125 (0, 0))] ∧ allocleast_J2 b_ q41 q42 = some true) ?_ ?_
      ·
        rintro _ w43 ⟨q41, q42, m39, m40, ⟨us, rfl⟩, hs44, hm⟩
        unfold allocleast_J2 at hm
        refine W.seq_join (fun s_ w_ => ∃ (q47 : List Int) (m45 : Option Addr) (m46 : Nat), (∃ us, s_ = slots 159 [(5, (.pointer (some ⟨b17, 0, none⟩))), (6, (.slice m45 q47.length m46))] us) ∧ St B w [] w_ [blk b17 (.cells [(.int .i64 1), (.int .i64 2), (.int .i64 (2 + b_.tmod 30))].toArray 63 (0, 0)), kU64.row m45 m46 q47, blk b38 (.cells (kBool.cells q42).toArray 125 (0, 0))] ∧ allocleast_J3 b_ q47 = some true) ?_ ?_
        ·
          rintro _ w48 ⟨q47, m45, m46, ⟨us, rfl⟩, hs49, hm⟩
          unfold allocleast_J3 at hm
          refine W.seq fun K50 hK50 => ?_
          refine W.region ?_
          refine ops_run 1 (by kernel_rfl) ?_
          refine ops_R (runs_loadAgg (ad := ⟨b17, 0, none⟩) (cs := [(.int .i64 1), (.int .i64 2), (.int .i64 (2 + b_.tmod 30))]) (by kernel_rfl) (cells_sub (hs49.heapAt 0 rfl) rfl)) ?_
          obtain ⟨r53, h54, hm⟩ := bind_some hm
          refine ops_call0 hs49 (by kernel_rfl) (taken_walk (hG := hG) (hT := (hs49.oldCells hT)) (hw := (St.kcells kU64 hs49 1 rfl)) (hw0 := (St.capnil kU64 hs49 1 rfl)) (hm := h54) B _) ?_
          rintro _ _ w55 ⟨a51, c52, rfl, rfl⟩ hs56
          have hs57 := St.ap1 hs56
          refine ops_run 9 (by kernel_rfl) ?_
          refine ops_done (by kernel_rfl) ?_
          refine hK50 _ _ ?_
          clear hK50
          refine W.seq fun K58 hK58 => ?_
          refine W.region ?_
          refine ops_run 2 (by kernel_rfl) ?_
          rcases Bool.eq_false_or_eq_true r53.2.2.2 with h59 | h59
          ·
            have h59p : r53.2.2.2 = true := h59
            replace hm := ite_yes hm h59p
            refine ops_set 148 (v := .bool true) (eq_bool_of (by kernel_rfl) h59) ?_
            refine ops_set 146 (v := .bool true) (eq_bool_of (by kernel_rfl) h59) ?_
            refine ops_set 26 (v := .bool true) (eq_bool_of (by kernel_rfl) h59) ?_
            refine ops_set 147 (v := .bool true) (eq_bool_of (by kernel_rfl) h59) ?_
            refine ops_run 4 (by kernel_rfl) ?_
            rcases Bool.eq_false_or_eq_true (decide (r53.2.2.1 = 7)) with h60 | h60
            ·
              have h60p : r53.2.2.1 = 7 := of_decide_eq_true h60
              replace hm := ite_yes hm h60p
              refine ops_set 152 (v := .bool true) (eq_bool_of (by kernel_rfl) h60) ?_
              refine ops_set 150 (v := .bool true) (eq_bool_of (by kernel_rfl) h60) ?_
              refine ops_set 151 (v := .bool true) (eq_bool_of (by kernel_rfl) h60) ?_
              refine ops_run 4 (by kernel_rfl) ?_
              rcases Bool.eq_false_or_eq_true (decide (r53.2.1 = 0)) with h61 | h61
              ·
                have h61p : r53.2.1 = 0 := of_decide_eq_true h61
                replace hm := ite_yes hm h61p
                refine ops_set 156 (v := .bool true) (eq_bool_of (by kernel_rfl) h61) ?_
                refine ops_set 154 (v := .bool true) (eq_bool_of (by kernel_rfl) h61) ?_
                refine ops_set 155 (v := .bool true) (eq_bool_of (by kernel_rfl) h61) ?_
                obtain ⟨r62, h63, hm⟩ := bind_some hm
                refine ops_call0 hs57 (by kernel_rfl) (works07_walk (hG := hG) (hT := (hs57.oldCells hT)) (hm := h63) B _) ?_
                rintro _ _ w65 ⟨rfl, rfl⟩ hs66
                have hs67 := St.ap0 hs66
                refine ops_run 2 (by kernel_rfl) ?_
                refine ops_done (by kernel_rfl) ?_
                refine hK58 _ _ ?_
                clear hK58
                refine W.ret ?_
                have hs68 := St.tk0 hs67
                refine ret_of (.bool r62) (by kernel_rfl) ⟨_, ⟨congrArg Value.bool (some_inj hm), rfl⟩, hs68⟩
              ·
                have h61p : ¬ (r53.2.1 = 0) := of_decide_eq_false h61
                replace hm := ite_no hm h61p
                refine ops_set 156 (v := .bool false) (eq_bool_of (by kernel_rfl) h61) ?_
                refine ops_set 154 (v := .bool false) (eq_bool_of (by kernel_rfl) h61) ?_
                refine ops_set 155 (v := .bool false) (eq_bool_of (by kernel_rfl) h61) ?_
                refine ops_run 3 (by kernel_rfl) ?_
                refine ops_done (by kernel_rfl) ?_
                refine hK58 _ _ ?_
                clear hK58
                refine W.ret ?_
                have hs69 := St.tk0 hs57
                refine ret_of (.bool false) (by kernel_rfl) ⟨_, ⟨congrArg Value.bool (some_inj hm), rfl⟩, hs69⟩
            ·
              have h60p : ¬ (r53.2.2.1 = 7) := of_decide_eq_false h60
              replace hm := ite_no hm h60p
              refine ops_set 152 (v := .bool false) (eq_bool_of (by kernel_rfl) h60) ?_
              refine ops_set 150 (v := .bool false) (eq_bool_of (by kernel_rfl) h60) ?_
              refine ops_set 151 (v := .bool false) (eq_bool_of (by kernel_rfl) h60) ?_
              refine ops_run 7 (by kernel_rfl) ?_
              refine ops_done (by kernel_rfl) ?_
              refine hK58 _ _ ?_
              clear hK58
              refine W.ret ?_
              have hs70 := St.tk0 hs57
              refine ret_of (.bool false) (by kernel_rfl) ⟨_, ⟨congrArg Value.bool (some_inj hm), rfl⟩, hs70⟩
          ·
            have h59p : ¬ (r53.2.2.2 = true) := ne_true_of_eq_false h59
            replace hm := ite_no hm h59p
            refine ops_set 148 (v := .bool false) (eq_bool_of (by kernel_rfl) h59) ?_
            refine ops_set 146 (v := .bool false) (eq_bool_of (by kernel_rfl) h59) ?_
            refine ops_set 26 (v := .bool false) (eq_bool_of (by kernel_rfl) h59) ?_
            refine ops_set 147 (v := .bool false) (eq_bool_of (by kernel_rfl) h59) ?_
            refine ops_run 11 (by kernel_rfl) ?_
            refine ops_done (by kernel_rfl) ?_
            refine hK58 _ _ ?_
            clear hK58
            refine W.ret ?_
            have hs71 := St.tk0 hs57
            refine ret_of (.bool false) (by kernel_rfl) ⟨_, ⟨congrArg Value.bool (some_inj hm), rfl⟩, hs71⟩
        ·
          refine W.seq fun K72 hK72 => ?_
          refine W.region ?_
          refine ops_run 1 (by kernel_rfl) ?_
          refine ops_done (by kernel_rfl) ?_
          refine hK72 _ _ ?_
          clear hK72
          refine W.block ?_
          refine W.loop_iter (G := (List Int) × Int × (Option Addr) × Nat) (σ := (List Int) × Int) (fun | (q75, p76, m73, m74) => (q75, p76)) (fun | (q75, p76, m73, m74), s_, w_ => (∃ us, s_ = slots 159 [(5, (.pointer (some ⟨b17, 0, none⟩))), (6, (.slice m73 q75.length m74)), (12, (.pointer (some ⟨b38, 0, none⟩))), (18, (.int .i64 p76))] us) ∧ St B w [] w_ [blk b17 (.cells [(.int .i64 1), (.int .i64 2), (.int .i64 (2 + b_.tmod 30))].toArray 63 (0, 0)), kU64.row m73 m74 q75, blk b38 (.cells (kBool.cells q42).toArray 125 (0, 0))]) (q41, 1, m39, m40) ⟨slots_intro _ (by kernel_rfl), hs44⟩ hm ?_
          rintro k77 ih78 ⟨q75, p76, m73, m74⟩ _ w79 ⟨⟨us, rfl⟩, hs80⟩ hm
          replace hm : allocleast_B2 b_ q42 k77 q75 p76 = some true := hm
          unfold allocleast_B2 at hm
          refine W.seq fun K81 hK81 => ?_
          refine W.seq fun K82 hK82 => ?_
          refine W.region ?_
          refine ops_run 2 (by kernel_rfl) ?_
          refine ops_R (runs_load (ad := ⟨b17, 2, none⟩) (v := (.int .i64 (2 + b_.tmod 30))) (by kernel_rfl) (hs80.cellAt 0 rfl rfl)) ?_
          refine ops_run 1 (by kernel_rfl) ?_
          refine ops_done (by kernel_rfl) ?_
          refine hK82 _ _ ?_
          clear hK82
          refine W.cond (decide (p76 < (2 + b_.tmod 30))) (by kernel_rfl) (fun h83 => ?_) (fun h83 => ?_)
          ·
            have h83p : p76 < (2 + b_.tmod 30) := of_decide_eq_true h83
            replace hm := ite_yes hm h83p
            refine W.skip ?_
            refine hK81 _ _ ?_
            clear hK81
            refine W.seq fun K84 hK84 => ?_
            refine W.block ?_
            refine W.seq fun K85 hK85 => ?_
            refine W.seq fun K86 hK86 => ?_
            refine W.region ?_
            refine ops_run 1 (by kernel_rfl) ?_
            obtain ⟨h89, hm⟩ := need_some hm
            have hk87 : p76.toNat < 32 := by omega
            obtain ⟨h90, hm⟩ := need_some hm
            have hl88 : p76.toNat < q42.length := by omega
            refine ops_R (v := .pointer (some (adr (some ⟨b38, 0, none⟩) (p76.toNat * 1)))) (runs_indexA (ad := ⟨b38, 0, none⟩) (n := 32) (z := p76) (size := 1) p76.toNat (nat_of h89.1) hk87 (by kernel_rfl)) ?_
            refine ops_R (runs_load (ad := ((adr (some ⟨b38, 0, none⟩) (p76.toNat * 1)).add 0)) (v := (.bool (q42.getD p76.toNat false))) (by kernel_rfl) (kBool.at (cells_blk (hs80.heapAt 2 rfl)) hl88 false 0 rfl)) ?_
            refine ops_run 1 (by kernel_rfl) ?_
            refine ops_done (by kernel_rfl) ?_
            refine hK86 _ _ ?_
            clear hK86
            refine W.cond (!(q42.getD p76.toNat false)) (by kernel_rfl) (fun h91 => ?_) (fun h91 => ?_)
            rotate_left
            ·
              have h91p : (q42.getD p76.toNat false) = true := (bnot_false h91)
              replace hm := ite_yes hm h91p
              refine W.skip ?_
              refine hK85 _ _ ?_
              clear hK85
              refine W.seq fun K92 hK92 => ?_
              refine W.region ?_
              refine ops_run 1 (by kernel_rfl) ?_
              refine ops_R (runs_loadAgg (ad := ⟨b17, 0, none⟩) (cs := [(.int .i64 1), (.int .i64 2), (.int .i64 (2 + b_.tmod 30))]) (by kernel_rfl) (cells_sub (hs80.heapAt 0 rfl) rfl)) ?_
              obtain ⟨r95, h96, hm⟩ := bind_some hm
              refine ops_call0 hs80 (by kernel_rfl) (taken_walk (hG := hG) (hT := (hs80.oldCells hT)) (hw := (St.kcells kU64 hs80 1 rfl)) (hw0 := (St.capnil kU64 hs80 1 rfl)) (hm := h96) B _) ?_
              rintro _ _ w97 ⟨a93, c94, rfl, rfl⟩ hs98
              have hs99 := St.ap1 hs98
              refine ops_run 9 (by kernel_rfl) ?_
              refine ops_done (by kernel_rfl) ?_
              refine hK92 _ _ ?_
              clear hK92
              refine W.seq fun K100 hK100 => ?_
              refine W.seq fun K101 hK101 => ?_
              refine W.region ?_
              refine ops_run 3 (by kernel_rfl) ?_
              rcases Bool.eq_false_or_eq_true (!r95.2.2.2) with h102 | h102
              rotate_left
              ·
                have h102p : r95.2.2.2 = true := (bnot_false h102)
                replace hm := ite_yes hm h102p
                refine ops_set 129 (v := .bool false) (eq_bool_of (by kernel_rfl) h102) ?_
                refine ops_set 128 (v := .bool false) (eq_bool_of (by kernel_rfl) h102) ?_
                refine ops_run 4 (by kernel_rfl) ?_
                rcases Bool.eq_false_or_eq_true (!decide (r95.2.2.1 = 0)) with h103 | h103
                rotate_left
                ·
                  have h103p : r95.2.2.1 = 0 := of_decide_eq_true (bnot_false h103)
                  replace hm := ite_yes hm h103p
                  refine ops_set 133 (v := .bool false) (eq_bool_of (by kernel_rfl) h103) ?_
                  refine ops_set 131 (v := .bool false) (eq_bool_of (by kernel_rfl) h103) ?_
                  refine ops_set 132 (v := .bool false) (eq_bool_of (by kernel_rfl) h103) ?_
                  refine ops_run 4 (by kernel_rfl) ?_
                  refine ops_done (by kernel_rfl) ?_
                  refine hK101 _ _ ?_
                  clear hK101
                  refine W.cond (!decide (r95.2.1 = p76)) (by kernel_rfl) (fun h104 => ?_) (fun h104 => ?_)
                  rotate_left
                  ·
                    have h104p : r95.2.1 = p76 := of_decide_eq_true (bnot_false h104)
                    replace hm := ite_yes hm h104p
                    refine W.skip ?_
                    refine hK100 _ _ ?_
                    clear hK100
                    refine W.region ?_
                    refine ops_run 2 (by kernel_rfl) ?_
                    refine ops_done (by kernel_rfl) ?_
                    refine normal_block ?_
                    refine hK84 _ _ ?_
                    clear hK84
                    refine W.region ?_
                    refine ops_run 1 (by kernel_rfl) ?_
                    obtain ⟨h105, hm⟩ := need_some hm
                    refine ops_val (v := .int .i64 (IntKind.i64.wrap (p76 + 1))) (v' := .int .i64 (p76 + 1)) (by kernel_rfl) (congrArg (Value.int .i64) (wrap_i64 h105.1 h105.2)) ?_
                    refine ops_run 1 (by kernel_rfl) ?_
                    refine ops_done (by kernel_rfl) ?_
                    have hs106 := St.f3 hs99
                    have hs107 := St.f1 hs106
                    have hs108 := St.f2 hs107
                    have hs109 := St.tk3 hs108
                    refine loopAt_next ?_
                    exact ih78 (r95.1, (p76 + 1), a93, c94) _ _ ⟨slots_intro _ (by kernel_rfl), hs109⟩ hm
                  ·
                    have h104p : ¬ (r95.2.1 = p76) := of_decide_eq_false (bnot_true h104)
                    replace hm := ite_no hm h104p
                    refine W.seq fun K110 hK110 => ?_
                    refine W.region ?_
                    refine ops_run 1 (by kernel_rfl) ?_
                    refine ops_done (by kernel_rfl) ?_
                    refine hK110 _ _ ?_
                    clear hK110
                    refine W.ret (ret_seq (ret_block (ret_seq (ret_seq (ret_block (ret_seq ?_))))))
                    have hs111 := St.tk0 hs99
                    refine ret_of (.bool false) (by kernel_rfl) ⟨_, ⟨congrArg Value.bool (some_inj hm), rfl⟩, hs111⟩
                ·
                  have h103p : ¬ (r95.2.2.1 = 0) := of_decide_eq_false (bnot_true h103)
                  replace hm := ite_no hm h103p
                  refine ops_set 133 (v := .bool true) (eq_bool_of (by kernel_rfl) h103) ?_
                  refine ops_set 131 (v := .bool true) (eq_bool_of (by kernel_rfl) h103) ?_
                  refine ops_set 132 (v := .bool true) (eq_bool_of (by kernel_rfl) h103) ?_
                  refine ops_run 4 (by kernel_rfl) ?_
                  refine ops_done (by kernel_rfl) ?_
                  refine hK101 _ _ ?_
                  clear hK101
                  refine W.cond_true true (by kernel_rfl) rfl ?_
                  refine W.seq fun K112 hK112 => ?_
                  refine W.region ?_
                  refine ops_run 1 (by kernel_rfl) ?_
                  refine ops_done (by kernel_rfl) ?_
                  refine hK112 _ _ ?_
                  clear hK112
                  refine W.ret (ret_seq (ret_block (ret_seq (ret_seq (ret_block (ret_seq ?_))))))
                  have hs113 := St.tk0 hs99
                  refine ret_of (.bool false) (by kernel_rfl) ⟨_, ⟨congrArg Value.bool (some_inj hm), rfl⟩, hs113⟩
              ·
                have h102p : ¬ (r95.2.2.2 = true) := ne_true_of_eq_false (bnot_true h102)
                replace hm := ite_no hm h102p
                refine ops_set 129 (v := .bool true) (eq_bool_of (by kernel_rfl) h102) ?_
                refine ops_set 128 (v := .bool true) (eq_bool_of (by kernel_rfl) h102) ?_
                refine ops_run 8 (by kernel_rfl) ?_
                refine ops_done (by kernel_rfl) ?_
                refine hK101 _ _ ?_
                clear hK101
                refine W.cond_true true (by kernel_rfl) rfl ?_
                refine W.seq fun K114 hK114 => ?_
                refine W.region ?_
                refine ops_run 1 (by kernel_rfl) ?_
                refine ops_done (by kernel_rfl) ?_
                refine hK114 _ _ ?_
                clear hK114
                refine W.ret (ret_seq (ret_block (ret_seq (ret_seq (ret_block (ret_seq ?_))))))
                have hs115 := St.tk0 hs99
                refine ret_of (.bool false) (by kernel_rfl) ⟨_, ⟨congrArg Value.bool (some_inj hm), rfl⟩, hs115⟩
            ·
              have h91p : ¬ ((q42.getD p76.toNat false) = true) := ne_true_of_eq_false (bnot_true h91)
              replace hm := ite_no hm h91p
              refine W.exit (exit_seq (exit_here ?_))
              refine hK84 _ _ ?_
              clear hK84
              refine W.region ?_
              refine ops_run 1 (by kernel_rfl) ?_
              obtain ⟨h116, hm⟩ := need_some hm
              refine ops_val (v := .int .i64 (IntKind.i64.wrap (p76 + 1))) (v' := .int .i64 (p76 + 1)) (by kernel_rfl) (congrArg (Value.int .i64) (wrap_i64 h116.1 h116.2)) ?_
              refine ops_run 1 (by kernel_rfl) ?_
              refine ops_done (by kernel_rfl) ?_
              refine loopAt_next ?_
              exact ih78 (q75, (p76 + 1), m73, m74) _ _ ⟨slots_intro _ (by kernel_rfl), hs80⟩ hm
          ·
            have h83p : ¬ (p76 < (2 + b_.tmod 30)) := of_decide_eq_false h83
            replace hm := ite_no hm h83p
            refine W.exit (exit_seq (exit_seq (exit_here ?_)))
            exact ⟨q75, m73, m74, slots_intro _ (by kernel_rfl), hs80, hm⟩
      ·
        refine W.seq fun K117 hK117 => ?_
        refine W.region ?_
        refine ops_run 1 (by kernel_rfl) ?_
        refine ops_done (by kernel_rfl) ?_
        refine hK117 _ _ ?_
        clear hK117
        refine W.block ?_
        have hs127 := St.f2 hs37
        have hs128 := St.f2 hs127
        refine W.loop_iter (G := (List Int) × (List Bool) × Int × (Option Addr) × Nat) (σ := (List Int) × (List Bool) × Int) (fun | (q120, q121, p122, m118, m119) => (q120, q121, p122)) (fun | (q120, q121, p122, m118, m119), s_, w_ => (∃ us, s_ = slots 159 [(1, (.slice la ls.length lc)), (5, (.pointer (some ⟨b17, 0, none⟩))), (6, (.slice m118 q120.length m119)), (12, (.pointer (some ⟨b38, 0, none⟩))), (13, (.int .i64 p122))] us) ∧ St B w [] w_ [blk b17 (.cells [(.int .i64 1), (.int .i64 2), (.int .i64 (2 + b_.tmod 30))].toArray 63 (0, 0)), kU64.row m118 m119 q120, blk b38 (.cells (kBool.cells q121).toArray 125 (0, 0))]) (q29, (List.replicate 32 false), 0, m27, m28) ⟨slots_intro _ (by kernel_rfl), hs128⟩ hm ?_
        rintro k123 ih124 ⟨q120, q121, p122, m118, m119⟩ _ w125 ⟨⟨us, rfl⟩, hs126⟩ hm
        replace hm : allocleast_B1 b_ ls k123 q120 q121 p122 = some true := hm
        unfold allocleast_B1 at hm
        refine W.seq fun K129 hK129 => ?_
        refine W.seq fun K130 hK130 => ?_
        refine W.region ?_
        refine ops_run 4 (by kernel_rfl) ?_
        refine ops_done (by kernel_rfl) ?_
        refine hK130 _ _ ?_
        clear hK130
        refine W.cond (decide (p122 < (ls.length : Int))) (by kernel_rfl) (fun h131 => ?_) (fun h131 => ?_)
        ·
          have h131p : p122 < (ls.length : Int) := of_decide_eq_true h131
          replace hm := ite_yes hm h131p
          refine W.skip ?_
          refine hK129 _ _ ?_
          clear hK129
          refine W.seq fun K132 hK132 => ?_
          refine W.block ?_
          refine W.seq fun K133 hK133 => ?_
          have hs134 := hs126.drew
          refine W.regionD [(0, 0), (0, 0), (3, 3), (4, 4), (8, 8), (0, 0), (32, 32), (64, 64), (144, 144), (256, 256), (1023, 512)] (fun w_ => St B w [] w_ [blk b17 (.cells [(.int .i64 1), (.int .i64 2), (.int .i64 (2 + b_.tmod 30))].toArray 63 (0, 0)), kU64.row m118 m119 q120, blk b38 (.cells (kBool.cells q121).toArray 125 (0, 0))]) (by kernel_rfl) hs134 ?_
          refine any_val (v := (.slice la ls.length lc)) (v' := (.slice la ls.length lc)) 0 (by kernel_rfl) (fun _ => by kernel_rfl) rfl hs134 ?_
          refine any_val (v := (.int .i64 p122)) (v' := (.int .i64 p122)) 1 (by kernel_rfl) (fun _ => by kernel_rfl) rfl hs134 ?_
          obtain ⟨h136, hm⟩ := need_some hm
          have hk135 := lt_toNat h136
          refine any_R 2 (by kernel_rfl) (fun _ hS_ => runs_index (a := la) (n := ls.length) (z := p122) (size := 1) p122.toNat (nat_of h136.1) hk135 (kU8.addr (hs134.oldCells hl) hk135) (by kernel_rfl)) hs134 ?_
          refine any_R 3 (by kernel_rfl) (fun _ hS_ => runs_load (ad := ((adr la (p122.toNat * 1)).add 0)) (v := (.int .u8 (ls.getD p122.toNat 0))) (by kernel_rfl) (kU8.at (hS_.oldCells hl) hk135 0 0 rfl)) hs134 ?_
          obtain ⟨h137, hm⟩ := need_some hm
          refine any_val (v := .int .i64 (IntKind.i64.wrap (ls.getD p122.toNat 0))) (v' := .int .i64 (ls.getD p122.toNat 0)) 4 (by kernel_rfl) (fun _ => by kernel_rfl) (congrArg (Value.int .i64) (wrap_i64 h137.1 h137.2)) hs134 ?_
          refine any_val (v := (.pointer (some ⟨b17, 2, none⟩))) (v' := (.pointer (some ⟨b17, 2, none⟩))) 5 (by kernel_rfl) (fun _ => by kernel_rfl) rfl hs134 ?_
          refine any_R 6 (by kernel_rfl) (fun _ hS_ => runs_load (ad := ⟨b17, 2, none⟩) (v := (.int .i64 (2 + b_.tmod 30))) (by kernel_rfl) (hS_.cellAt 0 rfl rfl)) hs134 ?_
          obtain ⟨h138, hm⟩ := need_some hm
          refine any_val (v := .int .i64 (IntKind.i64.wrap ((2 + b_.tmod 30) - 1))) (v' := .int .i64 ((2 + b_.tmod 30) - 1)) 7 (by kernel_rfl) (fun _ => by kernel_rfl) (congrArg (Value.int .i64) (wrap_i64 h138.1 h138.2)) hs134 ?_
          obtain ⟨h139, hm⟩ := need_some hm
          refine any_R (v := .int .i64 ((ls.getD p122.toNat 0).tmod ((2 + b_.tmod 30) - 1))) 8 (by kernel_rfl) (fun _ hS_ => runs_rem (k := .i64) (a := (ls.getD p122.toNat 0)) (b := ((2 + b_.tmod 30) - 1)) (by kernel_rfl) h139 rfl) hs134 ?_
          obtain ⟨h140, hm⟩ := need_some hm
          refine any_val (v := .int .i64 (IntKind.i64.wrap (1 + ((ls.getD p122.toNat 0).tmod ((2 + b_.tmod 30) - 1))))) (v' := .int .i64 (1 + ((ls.getD p122.toNat 0).tmod ((2 + b_.tmod 30) - 1)))) 9 (by kernel_rfl) (fun _ => by kernel_rfl) (congrArg (Value.int .i64) (wrap_i64 h140.1 h140.2)) hs134 ?_
          refine any_val (v := (.int .i64 (1 + ((ls.getD p122.toNat 0).tmod ((2 + b_.tmod 30) - 1))))) (v' := (.int .i64 (1 + ((ls.getD p122.toNat 0).tmod ((2 + b_.tmod 30) - 1))))) 10 (by kernel_rfl) (fun _ => by kernel_rfl) rfl hs134 ?_
          refine any_done (by kernel_rfl) ?_
          refine hK133 _ _ ?_
          clear hK133
          refine W.seq fun K141 hK141 => ?_
          refine W.region ?_
          refine ops_run 1 (by kernel_rfl) ?_
          refine ops_R (runs_loadAgg (ad := ⟨b17, 0, none⟩) (cs := [(.int .i64 1), (.int .i64 2), (.int .i64 (2 + b_.tmod 30))]) (by kernel_rfl) (cells_sub (hs134.heapAt 0 rfl) rfl)) ?_
          refine ops_run 1 (by kernel_rfl) ?_
          obtain ⟨r144, h145, hm⟩ := bind_some hm
          refine ops_call0 hs134 (by kernel_rfl) (given_walk (hG := hG) (hT := (hs134.oldCells hT)) (hw := (St.kcells kU64 hs134 1 rfl)) (hw0 := (St.capnil kU64 hs134 1 rfl)) (hm := h145) B _) ?_
          rintro _ _ w146 ⟨a142, c143, rfl, rfl⟩ hs147
          have hs148 := St.ap1 hs147
          refine ops_run 7 (by kernel_rfl) ?_
          refine ops_done (by kernel_rfl) ?_
          refine hK141 _ _ ?_
          clear hK141
          refine W.seq_join (fun s_ w_ => (∃ us, s_ = slots 159 [(1, (.slice la ls.length lc)), (5, (.pointer (some ⟨b17, 0, none⟩))), (12, (.pointer (some ⟨b38, 0, none⟩))), (13, (.int .i64 p122)), (14, (.int .i64 (1 + ((ls.getD p122.toNat 0).tmod ((2 + b_.tmod 30) - 1))))), (15, (.slice a142 r144.1.length c143))] us) ∧ St B w [] w_ [blk b17 (.cells [(.int .i64 1), (.int .i64 2), (.int .i64 (2 + b_.tmod 30))].toArray 63 (0, 0)), blk b38 (.cells (kBool.cells q121).toArray 125 (0, 0)), kU64.row a142 c143 r144.1, kU64.row m118 m119 q120] ∧ allocleast_J6 b_ ls k123 q121 p122 r144 = some true) ?_ ?_
          ·
            rintro _ w149 ⟨⟨us, rfl⟩, hs150, hm⟩
            unfold allocleast_J6 at hm
            refine W.seq fun K151 hK151 => ?_
            refine W.region ?_
            refine ops_run 1 (by kernel_rfl) ?_
            obtain ⟨h154, hm⟩ := need_some hm
            have hk152 : (1 + ((ls.getD p122.toNat 0).tmod ((2 + b_.tmod 30) - 1))).toNat < 32 := by omega
            obtain ⟨h155, hm⟩ := need_some hm
            have hl153 : (1 + ((ls.getD p122.toNat 0).tmod ((2 + b_.tmod 30) - 1))).toNat < q121.length := by omega
            refine ops_R (v := .pointer (some (adr (some ⟨b38, 0, none⟩) (((1 + ((ls.getD p122.toNat 0).tmod ((2 + b_.tmod 30) - 1))).toNat) * 1)))) (runs_indexA (ad := ⟨b38, 0, none⟩) (n := 32) (z := (1 + ((ls.getD p122.toNat 0).tmod ((2 + b_.tmod 30) - 1)))) (size := 1) ((1 + ((ls.getD p122.toNat 0).tmod ((2 + b_.tmod 30) - 1))).toNat) (nat_of h154.1) hk152 (by kernel_rfl)) ?_
            have hs158 := St.f1 hs150
            refine ops_storeArr kBool (j := 0) (vs := [(.bool true)]) false true hs158 hl153 (Nat.le_of_ble_eq_true rfl) rfl rfl (by kernel_rfl) (fun w156 hs157 => ?_)
            refine ops_done (by kernel_rfl) ?_
            refine hK151 _ _ ?_
            clear hK151
            refine W.region ?_
            refine ops_run 2 (by kernel_rfl) ?_
            refine ops_done (by kernel_rfl) ?_
            refine normal_block ?_
            refine hK132 _ _ ?_
            clear hK132
            refine W.region ?_
            refine ops_run 1 (by kernel_rfl) ?_
            obtain ⟨h159, hm⟩ := need_some hm
            refine ops_val (v := .int .i64 (IntKind.i64.wrap (p122 + 1))) (v' := .int .i64 (p122 + 1)) (by kernel_rfl) (congrArg (Value.int .i64) (wrap_i64 h159.1 h159.2)) ?_
            refine ops_run 1 (by kernel_rfl) ?_
            refine ops_done (by kernel_rfl) ?_
            have hs160 := St.f2 hs157
            have hs161 := St.f2 hs160
            have hs162 := St.tk3 hs161
            refine loopAt_next ?_
            exact ih124 (r144.1, (q121.set ((1 + ((ls.getD p122.toNat 0).tmod ((2 + b_.tmod 30) - 1))).toNat) true), (p122 + 1), a142, c143) _ _ ⟨slots_intro _ (by kernel_rfl), hs162⟩ hm
          ·
            refine W.seq fun K163 hK163 => ?_
            refine W.region ?_
            refine ops_run 3 (by kernel_rfl) ?_
            rcases Bool.eq_false_or_eq_true (!r144.2.2) with h164 | h164
            rotate_left
            ·
              have h164p : r144.2.2 = true := (bnot_false h164)
              replace hm := ite_yes hm h164p
              refine ops_set 90 (v := .bool false) (eq_bool_of (by kernel_rfl) h164) ?_
              refine ops_set 89 (v := .bool false) (eq_bool_of (by kernel_rfl) h164) ?_
              refine ops_run 3 (by kernel_rfl) ?_
              obtain ⟨h167, hm⟩ := need_some hm
              have hk165 : (1 + ((ls.getD p122.toNat 0).tmod ((2 + b_.tmod 30) - 1))).toNat < 32 := by omega
              obtain ⟨h168, hm⟩ := need_some hm
              have hl166 : (1 + ((ls.getD p122.toNat 0).tmod ((2 + b_.tmod 30) - 1))).toNat < q121.length := by omega
              refine ops_R (v := .pointer (some (adr (some ⟨b38, 0, none⟩) (((1 + ((ls.getD p122.toNat 0).tmod ((2 + b_.tmod 30) - 1))).toNat) * 1)))) (runs_indexA (ad := ⟨b38, 0, none⟩) (n := 32) (z := (1 + ((ls.getD p122.toNat 0).tmod ((2 + b_.tmod 30) - 1)))) (size := 1) ((1 + ((ls.getD p122.toNat 0).tmod ((2 + b_.tmod 30) - 1))).toNat) (nat_of h167.1) hk165 (by kernel_rfl)) ?_
              refine ops_R (runs_load (ad := ((adr (some ⟨b38, 0, none⟩) (((1 + ((ls.getD p122.toNat 0).tmod ((2 + b_.tmod 30) - 1))).toNat) * 1)).add 0)) (v := (.bool (q121.getD ((1 + ((ls.getD p122.toNat 0).tmod ((2 + b_.tmod 30) - 1))).toNat) false))) (by kernel_rfl) (kBool.at (cells_blk (hs148.heapAt 3 rfl)) hl166 false 0 rfl)) ?_
              refine ops_run 3 (by kernel_rfl) ?_
              rcases Bool.eq_false_or_eq_true ((decide (r144.2.1 = 0)) == (q121.getD ((1 + ((ls.getD p122.toNat 0).tmod ((2 + b_.tmod 30) - 1))).toNat) false)) with h169 | h169
              ·
                have h169p : ((r144.2.1 = 0) ↔ ((q121.getD ((1 + ((ls.getD p122.toNat 0).tmod ((2 + b_.tmod 30) - 1))).toNat) false) = true)) := beq_yes decide_eq_true_iff Iff.rfl h169
                replace hm := ite_yes hm h169p
                refine ops_set 98 (v := .bool true) (eq_bool_of (by kernel_rfl) h169) ?_
                refine ops_set 96 (v := .bool true) (eq_bool_of (by kernel_rfl) h169) ?_
                refine ops_set 97 (v := .bool true) (eq_bool_of (by kernel_rfl) h169) ?_
                refine ops_run 7 (by kernel_rfl) ?_
                refine ops_done (by kernel_rfl) ?_
                refine hK163 _ _ ?_
                clear hK163
                refine W.cond_true true (by kernel_rfl) rfl ?_
                refine W.seq fun K170 hK170 => ?_
                refine W.region ?_
                refine ops_run 1 (by kernel_rfl) ?_
                refine ops_done (by kernel_rfl) ?_
                refine hK170 _ _ ?_
                clear hK170
                refine W.ret (ret_seq (ret_block (ret_seq (ret_seq (ret_block (ret_seq ?_))))))
                have hs171 := St.tk0 hs148
                refine ret_of (.bool false) (by kernel_rfl) ⟨_, ⟨congrArg Value.bool (some_inj hm), rfl⟩, hs171⟩
              ·
                have h169p : ¬ ((r144.2.1 = 0) ↔ ((q121.getD ((1 + ((ls.getD p122.toNat 0).tmod ((2 + b_.tmod 30) - 1))).toNat) false) = true)) := beq_no decide_eq_true_iff Iff.rfl h169
                replace hm := ite_no hm h169p
                refine ops_set 98 (v := .bool false) (eq_bool_of (by kernel_rfl) h169) ?_
                refine ops_set 96 (v := .bool false) (eq_bool_of (by kernel_rfl) h169) ?_
                refine ops_set 97 (v := .bool false) (eq_bool_of (by kernel_rfl) h169) ?_
                refine ops_run 3 (by kernel_rfl) ?_
                rcases Bool.eq_false_or_eq_true (!decide (r144.2.1 = 0)) with h172 | h172
                rotate_left
                ·
                  have h172p : r144.2.1 = 0 := of_decide_eq_true (bnot_false h172)
                  replace hm := ite_yes hm h172p
                  refine ops_set 101 (v := .bool false) (eq_bool_of (by kernel_rfl) h172) ?_
                  refine ops_set 100 (v := .bool false) (eq_bool_of (by kernel_rfl) h172) ?_
                  refine ops_run 4 (by kernel_rfl) ?_
                  refine ops_done (by kernel_rfl) ?_
                  refine hK163 _ _ ?_
                  clear hK163
                  refine W.cond_false false (by kernel_rfl) rfl ?_
                  refine W.skip ?_
                  have hs173 := St.f2 hs148
                  have hs174 := St.f1 hs173
                  have hs175 := St.f3 hs174
                  have hs176 := St.f3 hs175
                  exact ⟨slots_intro _ (by kernel_rfl), hs176, hm⟩
                ·
                  have h172p : ¬ (r144.2.1 = 0) := of_decide_eq_false (bnot_true h172)
                  replace hm := ite_no hm h172p
                  refine ops_set 101 (v := .bool true) (eq_bool_of (by kernel_rfl) h172) ?_
                  refine ops_set 100 (v := .bool true) (eq_bool_of (by kernel_rfl) h172) ?_
                  refine ops_run 4 (by kernel_rfl) ?_
                  refine ops_done (by kernel_rfl) ?_
                  refine hK163 _ _ ?_
                  clear hK163
                  refine W.cond (!decide (r144.2.1 = 3)) (by kernel_rfl) (fun h177 => ?_) (fun h177 => ?_)
                  rotate_left
                  ·
                    have h177p : r144.2.1 = 3 := of_decide_eq_true (bnot_false h177)
                    replace hm := ite_yes hm h177p
                    refine W.skip ?_
                    have hs178 := St.f2 hs148
                    have hs179 := St.f1 hs178
                    have hs180 := St.f3 hs179
                    have hs181 := St.f3 hs180
                    exact ⟨slots_intro _ (by kernel_rfl), hs181, hm⟩
                  ·
                    have h177p : ¬ (r144.2.1 = 3) := of_decide_eq_false (bnot_true h177)
                    replace hm := ite_no hm h177p
                    refine W.seq fun K182 hK182 => ?_
                    refine W.region ?_
                    refine ops_run 1 (by kernel_rfl) ?_
                    refine ops_done (by kernel_rfl) ?_
                    refine hK182 _ _ ?_
                    clear hK182
                    refine W.ret (ret_seq (ret_block (ret_seq (ret_seq (ret_block (ret_seq ?_))))))
                    have hs183 := St.tk0 hs148
                    refine ret_of (.bool false) (by kernel_rfl) ⟨_, ⟨congrArg Value.bool (some_inj hm), rfl⟩, hs183⟩
            ·
              have h164p : ¬ (r144.2.2 = true) := ne_true_of_eq_false (bnot_true h164)
              replace hm := ite_no hm h164p
              refine ops_set 90 (v := .bool true) (eq_bool_of (by kernel_rfl) h164) ?_
              refine ops_set 89 (v := .bool true) (eq_bool_of (by kernel_rfl) h164) ?_
              refine ops_run 15 (by kernel_rfl) ?_
              refine ops_done (by kernel_rfl) ?_
              refine hK163 _ _ ?_
              clear hK163
              refine W.cond_true true (by kernel_rfl) rfl ?_
              refine W.seq fun K184 hK184 => ?_
              refine W.region ?_
              refine ops_run 1 (by kernel_rfl) ?_
              refine ops_done (by kernel_rfl) ?_
              refine hK184 _ _ ?_
              clear hK184
              refine W.ret (ret_seq (ret_block (ret_seq (ret_seq (ret_block (ret_seq ?_))))))
              have hs185 := St.tk0 hs148
              refine ret_of (.bool false) (by kernel_rfl) ⟨_, ⟨congrArg Value.bool (some_inj hm), rfl⟩, hs185⟩
        ·
          have h131p : ¬ (p122 < (ls.length : Int)) := of_decide_eq_false h131
          replace hm := ite_no hm h131p
          refine W.exit (exit_seq (exit_seq (exit_here ?_)))
          exact ⟨q120, q121, m118, m119, slots_intro _ (by kernel_rfl), hs126, hm⟩
    ·
      refine W.seq fun K186 hK186 => ?_
      refine W.region ?_
      refine ops_run 1 (by kernel_rfl) ?_
      refine ops_done (by kernel_rfl) ?_
      refine hK186 _ _ ?_
      clear hK186
      refine W.block ?_
      have hs195 := St.f1 hs26
      refine W.loop_iter (G := (List Int) × Int × (Option Addr) × Nat) (σ := (List Int) × Int) (fun | (q189, p190, m187, m188) => (q189, p190)) (fun | (q189, p190, m187, m188), s_, w_ => (∃ us, s_ = slots 159 [(1, (.slice la ls.length lc)), (5, (.pointer (some ⟨b17, 0, none⟩))), (6, (.slice m187 q189.length m188)), (7, (.int .i64 p190))] us) ∧ St B w [] w_ [blk b17 (.cells [(.int .i64 1), (.int .i64 2), (.int .i64 (2 + b_.tmod 30))].toArray 63 (0, 0)), kU64.row m187 m188 q189]) ((fmtW 1 2 (2 + b_.tmod 30)), 1, a22, c23) ⟨slots_intro _ (by kernel_rfl), hs195⟩ hm ?_
      rintro k191 ih192 ⟨q189, p190, m187, m188⟩ _ w193 ⟨⟨us, rfl⟩, hs194⟩ hm
      replace hm : allocleast_B0 b_ ls k191 q189 p190 = some true := hm
      unfold allocleast_B0 at hm
      refine W.seq fun K196 hK196 => ?_
      refine W.seq fun K197 hK197 => ?_
      refine W.region ?_
      refine ops_run 2 (by kernel_rfl) ?_
      refine ops_R (runs_load (ad := ⟨b17, 2, none⟩) (v := (.int .i64 (2 + b_.tmod 30))) (by kernel_rfl) (hs194.cellAt 0 rfl rfl)) ?_
      refine ops_run 1 (by kernel_rfl) ?_
      refine ops_done (by kernel_rfl) ?_
      refine hK197 _ _ ?_
      clear hK197
      refine W.cond (decide (p190 < (2 + b_.tmod 30))) (by kernel_rfl) (fun h198 => ?_) (fun h198 => ?_)
      ·
        have h198p : p190 < (2 + b_.tmod 30) := of_decide_eq_true h198
        replace hm := ite_yes hm h198p
        refine W.skip ?_
        refine hK196 _ _ ?_
        clear hK196
        refine W.seq fun K199 hK199 => ?_
        refine W.block ?_
        refine W.seq fun K200 hK200 => ?_
        refine W.region ?_
        refine ops_run 1 (by kernel_rfl) ?_
        refine ops_R (runs_loadAgg (ad := ⟨b17, 0, none⟩) (cs := [(.int .i64 1), (.int .i64 2), (.int .i64 (2 + b_.tmod 30))]) (by kernel_rfl) (cells_sub (hs194.heapAt 0 rfl) rfl)) ?_
        obtain ⟨r203, h204, hm⟩ := bind_some hm
        refine ops_call0 hs194 (by kernel_rfl) (taken_walk (hG := hG) (hT := (hs194.oldCells hT)) (hw := (St.kcells kU64 hs194 1 rfl)) (hw0 := (St.capnil kU64 hs194 1 rfl)) (hm := h204) B _) ?_
        rintro _ _ w205 ⟨a201, c202, rfl, rfl⟩ hs206
        have hs207 := St.ap1 hs206
        refine ops_run 9 (by kernel_rfl) ?_
        refine ops_done (by kernel_rfl) ?_
        refine hK200 _ _ ?_
        clear hK200
        refine W.seq fun K208 hK208 => ?_
        refine W.seq fun K209 hK209 => ?_
        refine W.region ?_
        refine ops_run 3 (by kernel_rfl) ?_
        rcases Bool.eq_false_or_eq_true (!r203.2.2.2) with h210 | h210
        rotate_left
        ·
          have h210p : r203.2.2.2 = true := (bnot_false h210)
          replace hm := ite_yes hm h210p
          refine ops_set 54 (v := .bool false) (eq_bool_of (by kernel_rfl) h210) ?_
          refine ops_set 53 (v := .bool false) (eq_bool_of (by kernel_rfl) h210) ?_
          refine ops_run 4 (by kernel_rfl) ?_
          rcases Bool.eq_false_or_eq_true (!decide (r203.2.2.1 = 0)) with h211 | h211
          rotate_left
          ·
            have h211p : r203.2.2.1 = 0 := of_decide_eq_true (bnot_false h211)
            replace hm := ite_yes hm h211p
            refine ops_set 58 (v := .bool false) (eq_bool_of (by kernel_rfl) h211) ?_
            refine ops_set 56 (v := .bool false) (eq_bool_of (by kernel_rfl) h211) ?_
            refine ops_set 57 (v := .bool false) (eq_bool_of (by kernel_rfl) h211) ?_
            refine ops_run 4 (by kernel_rfl) ?_
            refine ops_done (by kernel_rfl) ?_
            refine hK209 _ _ ?_
            clear hK209
            refine W.cond (!decide (r203.2.1 = p190)) (by kernel_rfl) (fun h212 => ?_) (fun h212 => ?_)
            rotate_left
            ·
              have h212p : r203.2.1 = p190 := of_decide_eq_true (bnot_false h212)
              replace hm := ite_yes hm h212p
              refine W.skip ?_
              refine hK208 _ _ ?_
              clear hK208
              refine W.region ?_
              refine ops_run 2 (by kernel_rfl) ?_
              refine ops_done (by kernel_rfl) ?_
              refine normal_block ?_
              refine hK199 _ _ ?_
              clear hK199
              refine W.region ?_
              refine ops_run 1 (by kernel_rfl) ?_
              obtain ⟨h213, hm⟩ := need_some hm
              refine ops_val (v := .int .i64 (IntKind.i64.wrap (p190 + 1))) (v' := .int .i64 (p190 + 1)) (by kernel_rfl) (congrArg (Value.int .i64) (wrap_i64 h213.1 h213.2)) ?_
              refine ops_run 1 (by kernel_rfl) ?_
              refine ops_done (by kernel_rfl) ?_
              have hs214 := St.f1 hs207
              have hs215 := St.tk2 hs214
              refine loopAt_next ?_
              exact ih192 (r203.1, (p190 + 1), a201, c202) _ _ ⟨slots_intro _ (by kernel_rfl), hs215⟩ hm
            ·
              have h212p : ¬ (r203.2.1 = p190) := of_decide_eq_false (bnot_true h212)
              replace hm := ite_no hm h212p
              refine W.seq fun K216 hK216 => ?_
              refine W.region ?_
              refine ops_run 1 (by kernel_rfl) ?_
              refine ops_done (by kernel_rfl) ?_
              refine hK216 _ _ ?_
              clear hK216
              refine W.ret (ret_seq (ret_block (ret_seq (ret_seq (ret_block (ret_seq ?_))))))
              have hs217 := St.tk0 hs207
              refine ret_of (.bool false) (by kernel_rfl) ⟨_, ⟨congrArg Value.bool (some_inj hm), rfl⟩, hs217⟩
          ·
            have h211p : ¬ (r203.2.2.1 = 0) := of_decide_eq_false (bnot_true h211)
            replace hm := ite_no hm h211p
            refine ops_set 58 (v := .bool true) (eq_bool_of (by kernel_rfl) h211) ?_
            refine ops_set 56 (v := .bool true) (eq_bool_of (by kernel_rfl) h211) ?_
            refine ops_set 57 (v := .bool true) (eq_bool_of (by kernel_rfl) h211) ?_
            refine ops_run 4 (by kernel_rfl) ?_
            refine ops_done (by kernel_rfl) ?_
            refine hK209 _ _ ?_
            clear hK209
            refine W.cond_true true (by kernel_rfl) rfl ?_
            refine W.seq fun K218 hK218 => ?_
            refine W.region ?_
            refine ops_run 1 (by kernel_rfl) ?_
            refine ops_done (by kernel_rfl) ?_
            refine hK218 _ _ ?_
            clear hK218
            refine W.ret (ret_seq (ret_block (ret_seq (ret_seq (ret_block (ret_seq ?_))))))
            have hs219 := St.tk0 hs207
            refine ret_of (.bool false) (by kernel_rfl) ⟨_, ⟨congrArg Value.bool (some_inj hm), rfl⟩, hs219⟩
        ·
          have h210p : ¬ (r203.2.2.2 = true) := ne_true_of_eq_false (bnot_true h210)
          replace hm := ite_no hm h210p
          refine ops_set 54 (v := .bool true) (eq_bool_of (by kernel_rfl) h210) ?_
          refine ops_set 53 (v := .bool true) (eq_bool_of (by kernel_rfl) h210) ?_
          refine ops_run 8 (by kernel_rfl) ?_
          refine ops_done (by kernel_rfl) ?_
          refine hK209 _ _ ?_
          clear hK209
          refine W.cond_true true (by kernel_rfl) rfl ?_
          refine W.seq fun K220 hK220 => ?_
          refine W.region ?_
          refine ops_run 1 (by kernel_rfl) ?_
          refine ops_done (by kernel_rfl) ?_
          refine hK220 _ _ ?_
          clear hK220
          refine W.ret (ret_seq (ret_block (ret_seq (ret_seq (ret_block (ret_seq ?_))))))
          have hs221 := St.tk0 hs207
          refine ret_of (.bool false) (by kernel_rfl) ⟨_, ⟨congrArg Value.bool (some_inj hm), rfl⟩, hs221⟩
      ·
        have h198p : ¬ (p190 < (2 + b_.tmod 30)) := of_decide_eq_false h198
        replace hm := ite_no hm h198p
        refine W.exit (exit_seq (exit_seq (exit_here ?_)))
        exact ⟨q189, m187, m188, slots_intro _ (by kernel_rfl), hs194, hm⟩

end Go.Proofs.YthimamnblklkbaaDoor
