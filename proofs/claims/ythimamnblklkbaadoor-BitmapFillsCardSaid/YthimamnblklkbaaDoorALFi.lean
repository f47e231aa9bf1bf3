/- What the code computes, by a program. -/
import Derived.Test.YthimamnblklkbaaDoorGD
namespace Go.Proofs.YthimamnblklkbaaDoor
open Go Go.RowKit
set_option linter.unusedSimpArgs false
set_option linter.unusedVariables false

def bitmapfills_J3 (ws : List Int) (k68 : Int → Option (Bool)) (p67 : Int) (r83 : Int) (p85 : Bool) : Option (Bool) :=
  if p85 = true then (if r83 = 1 then (need (-9223372036854775808 ≤ (p67 + 1) ∧ (p67 + 1) ≤ 9223372036854775807) <|
k68 (p67 + 1)) else (some false)) else (need (-9223372036854775808 ≤ (p67.tdiv 64) ∧ (p67.tdiv 64) ≤ 9223372036854775807) <|
need (0 ≤ (p67.tdiv 64) ∧ (p67.tdiv 64) < (ws.length : Int)) <|
need (0 ≤ (p67.tmod 64) ∧ (p67.tmod 64) ≤ 18446744073709551615) <|
need (0 ≤ p67.tmod 64) <|
if r83 = (shrK .u64 (ws.getD ((p67.tdiv 64).toNat) 0) (p67.tmod 64)).tmod 2 then (need (-9223372036854775808 ≤ (p67 + 1) ∧ (p67 + 1) ≤ 9223372036854775807) <|
k68 (p67 + 1)) else (some false))

def bitmapfills_B2 (ws : List Int) (r21 : Int) (r29 : Int) (l47 : List (Int × Int)) (k68 : Int → Option (Bool)) (p67 : Int) : Option (Bool) :=
  need (-9223372036854775808 ≤ (64 * (ws.length : Int)) ∧ (64 * (ws.length : Int)) ≤ 9223372036854775807) <|
if p67 < (64 * (ws.length : Int)) then (need (-9223372036854775808 ≤ (p67.tdiv 64) ∧ (p67.tdiv 64) ≤ 9223372036854775807) <|
need (0 ≤ (p67.tdiv 64) ∧ (p67.tdiv 64) < (((vflat ws l47).length) : Int)) <|
need (0 ≤ (p67.tmod 64) ∧ (p67.tmod 64) ≤ 18446744073709551615) <|
need (0 ≤ p67.tmod 64) <|
(some ((shrK .u64 ((vflat ws l47).getD ((p67.tdiv 64).toNat) 0) (p67.tmod 64)).tmod 2)).bind fun r83 =>
need (-9223372036854775808 ≤ (64 * r21) ∧ (64 * r21) ≤ 9223372036854775807) <|
if p67 ≥ (64 * r21) then (need (-9223372036854775808 ≤ (64 * r21) ∧ (64 * r21) ≤ 9223372036854775807) <|
need (-9223372036854775808 ≤ ((64 * r21) + r29) ∧ ((64 * r21) + r29) ≤ 9223372036854775807) <|
bitmapfills_J3 ws k68 p67 r83 (decide (p67 < ((64 * r21) + r29)))) else (bitmapfills_J3 ws k68 p67 r83 false)) else ((works06_M).bind fun r108 =>
some r108)

def bitmapfills_J1 (ws : List Int) (r21 : Int) (r29 : Int) (l47 : List (Int × Int)) : Option (Bool) :=
  (mcount_M ws l47 r21 r29).bind fun r58 =>
if r58 = r29 then (if (((vflat ws l47).length) : Int) = (ws.length : Int) then (iter (fun k_ s_ => bitmapfills_B2 ws r21 r29 l47 k_ s_) FUEL 0) else (some false)) else (some false)

def bitmapfills_B1 (ws : List Int) (r21 : Int) (k122 : ((List (Int × Int)) × Int × Int) → Option (Bool)) (p121 : Int) (r132 : Int × Bool) (r157 : Int × List (Int × Int)) (k171 : Int → Option (Bool)) (p170 : Int) : Option (Bool) :=
  if p170 < r132.1 then (need (-9223372036854775808 ≤ (p170.tdiv 64) ∧ (p170.tdiv 64) ≤ 9223372036854775807) <|
need (-9223372036854775808 ≤ (r21 + (p170.tdiv 64)) ∧ (r21 + (p170.tdiv 64)) ≤ 9223372036854775807) <|
need (0 ≤ (r21 + (p170.tdiv 64)) ∧ (r21 + (p170.tdiv 64)) < (ws.length : Int)) <|
need (0 ≤ (p170.tmod 64) ∧ (p170.tmod 64) ≤ 18446744073709551615) <|
need (0 ≤ p170.tmod 64) <|
if (shrK .u64 (ws.getD ((r21 + (p170.tdiv 64)).toNat) 0) (p170.tmod 64)).tmod 2 = 0 then (some false) else (need (-9223372036854775808 ≤ (p170 + 1) ∧ (p170 + 1) ≤ 9223372036854775807) <|
k171 (p170 + 1))) else (need (-9223372036854775808 ≤ (p121 + 1) ∧ (p121 + 1) ≤ 9223372036854775807) <|
k122 (r157.2, r132.1, (p121 + 1)))

def bitmapfills_B0 (ws : List Int) (r21 : Int) (r29 : Int) (k122 : ((List (Int × Int)) × Int × Int) → Option (Bool)) (l119 : List (Int × Int)) (p120 : Int) (p121 : Int) : Option (Bool) :=
  if p121 ≤ r29 then ((mclear_M ws l119 r21 r29).bind fun r132 =>
if r132.2 = true then (if r132.1 ≤ p120 then (some false) else (if r132.1 ≥ r29 then (some false) else (need (-9223372036854775808 ≤ (r132.1.tdiv 64) ∧ (r132.1.tdiv 64) ≤ 9223372036854775807) <|
need (-9223372036854775808 ≤ (r21 + (r132.1.tdiv 64)) ∧ (r21 + (r132.1.tdiv 64)) ≤ 9223372036854775807) <|
need (0 ≤ (r21 + (r132.1.tdiv 64)) ∧ (r21 + (r132.1.tdiv 64)) < (ws.length : Int)) <|
need (0 ≤ (r132.1.tmod 64) ∧ (r132.1.tmod 64) ≤ 18446744073709551615) <|
need (0 ≤ r132.1.tmod 64) <|
if (shrK .u64 (ws.getD ((r21 + (r132.1.tdiv 64)).toNat) 0) (r132.1.tmod 64)).tmod 2 = 1 then (some false) else ((mset_M ws l119 r21 r29 r132.1 true).bind fun r157 =>
if r157.1 = 0 then (if p121 = r29 then (some false) else (need (-9223372036854775808 ≤ (p120 + 1) ∧ (p120 + 1) ≤ 9223372036854775807) <|
iter (fun k_ s_ => bitmapfills_B1 ws r21 k122 p121 r132 r157 k_ s_) FUEL (p120 + 1))) else (some false))))) else (bitmapfills_J1 ws r21 r29 l119)) else (bitmapfills_J1 ws r21 r29 l119)

def bitmapfills_M (ws : List Int) (at_ : Int) (many : Int) : Option (Bool) :=
  if (ws.length : Int) > 50 then ((works06_M).bind fun r6 =>
some r6) else (if (ws.length : Int) = 0 then ((works06_M).bind fun r13 =>
some r13) else (need (-9223372036854775808 ≤ at_ ∧ at_ ≤ 9223372036854775807) <|
need (¬ ((ws.length : Int) = 0)) <|
(some (at_.tmod (ws.length : Int))).bind fun r21 =>
need (-9223372036854775808 ≤ many ∧ many ≤ 9223372036854775807) <|
need (-9223372036854775808 ≤ ((ws.length : Int) - r21) ∧ ((ws.length : Int) - r21) ≤ 9223372036854775807) <|
need (-9223372036854775808 ≤ (64 * ((ws.length : Int) - r21)) ∧ (64 * ((ws.length : Int) - r21)) ≤ 9223372036854775807) <|
need (¬ ((64 * ((ws.length : Int) - r21)) = 0)) <|
need (-9223372036854775808 ≤ (1 + (many.tmod (64 * ((ws.length : Int) - r21)))) ∧ (1 + (many.tmod (64 * ((ws.length : Int) - r21)))) ≤ 9223372036854775807) <|
(some (1 + (many.tmod (64 * ((ws.length : Int) - r21))))).bind fun r29 =>
need (ws.length ≤ 17592186044415) <|
need ((ws.length : Int) ≤ 1000000000000) <|
need ((0 ≤ (r21 : Int) ∧ (r21 : Int) < (ws.length : Int)) ∧ (1 ≤ (r29 : Int) ∧ (r29 : Int) ≤ 1000000000000) ∧ ((r29 : Int) - 1) / 64 < (ws.length : Int) - (r21 : Int)) <|
iter (fun k_ s_ => bitmapfills_B0 ws r21 r29 k_ s_.1 s_.2.1 s_.2.2) FUEL ([], (-1), 0)))

set_option maxRecDepth 20000 in
set_option maxHeartbeats 4000000 in
set_option linter.unusedVariables false in
theorem bitmapfills_walk {ws : List Int} {at_ : Int} {many : Int} {wa : Option Addr} {wc : Nat}  (B : Nat) (w : World) (hB : w.heap.size = B) (hT : CellsAt (some ⟨0, 0, none⟩) tab8 w) (hw : CellsAt wa (kU64.cells ws) w) (hw0 : wa = none → wc = 0) (hm : bitmapfills_M ws at_ many = some true) : Spec Tryd.prog 5 #[(.slice wa ws.length wc), (.int .u8 at_), (.int .u8 many)] B w [] (fun v H' => v = .bool true ∧ H' = []) := by
  refine spec_Q Tryd.func5 rfl fun hs => ?_
  unfold bitmapfills_M at hm
  refine W.seq fun K1 hK1 => ?_
  refine W.region ?_
  refine ops_run 1 (by kernel_rfl) ?_
  refine ops_done (by kernel_rfl) ?_
  refine hK1 _ _ ?_
  clear hK1
  refine W.seq fun K2 hK2 => ?_
  refine W.seq fun K3 hK3 => ?_
  refine W.region ?_
  refine ops_run 4 (by kernel_rfl) ?_
  rcases Bool.eq_false_or_eq_true (decide ((ws.length : Int) > 50)) with h4 | h4
  ·
    have h4p : (ws.length : Int) > 50 := of_decide_eq_true h4
    replace hm := ite_yes hm h4p
    refine ops_set 24 (v := .bool true) (eq_bool_of (by kernel_rfl) h4) ?_
    refine ops_set 23 (v := .bool true) (eq_bool_of (by kernel_rfl) h4) ?_
    refine ops_run 4 (by kernel_rfl) ?_
    refine ops_done (by kernel_rfl) ?_
    refine hK3 _ _ ?_
    clear hK3
    refine W.cond_true true (by kernel_rfl) rfl ?_
    refine W.seq fun K5 hK5 => ?_
    refine W.region ?_
    obtain ⟨r6, h7, hm⟩ := bind_some hm
    refine ops_call (pre := []) hs (by kernel_rfl) (works06_walk (hT := (hs.oldCells hT)) (hm := h7) B _) ?_
    rintro _ _ w8 ⟨rfl, rfl⟩ hs9
    have hs10 : St B w [] w8 [] := hs9
    refine ops_run 1 (by kernel_rfl) ?_
    refine ops_done (by kernel_rfl) ?_
    refine hK5 _ _ ?_
    clear hK5
    refine W.ret (ret_seq ?_)
    refine ret_of (.bool r6) (by kernel_rfl) ⟨_, ⟨congrArg Value.bool (some_inj hm), rfl⟩, hs10⟩
  ·
    have h4p : ¬ ((ws.length : Int) > 50) := of_decide_eq_false h4
    replace hm := ite_no hm h4p
    refine ops_set 24 (v := .bool false) (eq_bool_of (by kernel_rfl) h4) ?_
    refine ops_set 23 (v := .bool false) (eq_bool_of (by kernel_rfl) h4) ?_
    refine ops_run 4 (by kernel_rfl) ?_
    refine ops_done (by kernel_rfl) ?_
    refine hK3 _ _ ?_
    clear hK3
    refine W.cond (decide ((ws.length : Int) = 0)) (by kernel_rfl) (fun h11 => ?_) (fun h11 => ?_)
    ·
      have h11p : (ws.length : Int) = 0 := of_decide_eq_true h11
      replace hm := ite_yes hm h11p
      refine W.seq fun K12 hK12 => ?_
      refine W.region ?_
      obtain ⟨r13, h14, hm⟩ := bind_some hm
      refine ops_call (pre := []) hs (by kernel_rfl) (works06_walk (hT := (hs.oldCells hT)) (hm := h14) B _) ?_
      rintro _ _ w15 ⟨rfl, rfl⟩ hs16
      have hs17 : St B w [] w15 [] := hs16
      refine ops_run 1 (by kernel_rfl) ?_
      refine ops_done (by kernel_rfl) ?_
      refine hK12 _ _ ?_
      clear hK12
      refine W.ret (ret_seq ?_)
      refine ret_of (.bool r13) (by kernel_rfl) ⟨_, ⟨congrArg Value.bool (some_inj hm), rfl⟩, hs17⟩
    ·
      have h11p : ¬ ((ws.length : Int) = 0) := of_decide_eq_false h11
      replace hm := ite_no hm h11p
      refine W.skip ?_
      refine hK2 _ _ ?_
      clear hK2
      refine W.seq fun K18 hK18 => ?_
      refine W.region ?_
      refine ops_run 1 (by kernel_rfl) ?_
      obtain ⟨h19, hm⟩ := need_some hm
      refine ops_val (v := .int .i64 (IntKind.i64.wrap at_)) (v' := .int .i64 at_) (by kernel_rfl) (congrArg (Value.int .i64) (wrap_i64 h19.1 h19.2)) ?_
      refine ops_run 2 (by kernel_rfl) ?_
      obtain ⟨h20, hm⟩ := need_some hm
      refine ops_R (v := .int .i64 (at_.tmod (ws.length : Int))) (runs_rem (k := .i64) (a := at_) (b := (ws.length : Int)) (by kernel_rfl) h20 rfl) ?_
      refine ops_run 1 (by kernel_rfl) ?_
      obtain ⟨r21, h22, hm⟩ := bind_some hm
      replace h22 := some_inj h22
      refine ops_set 7 (v := .int .i64 r21) (Eq.trans (by kernel_rfl) (congrArg (Value.int .i64) h22)) ?_
      refine ops_done (by kernel_rfl) ?_
      refine hK18 _ _ ?_
      clear hK18
      refine W.seq fun K23 hK23 => ?_
      refine W.region ?_
      refine ops_run 1 (by kernel_rfl) ?_
      obtain ⟨h24, hm⟩ := need_some hm
      refine ops_val (v := .int .i64 (IntKind.i64.wrap many)) (v' := .int .i64 many) (by kernel_rfl) (congrArg (Value.int .i64) (wrap_i64 h24.1 h24.2)) ?_
      refine ops_run 3 (by kernel_rfl) ?_
      obtain ⟨h25, hm⟩ := need_some hm
      refine ops_val (v := .int .i64 (IntKind.i64.wrap ((ws.length : Int) - r21))) (v' := .int .i64 ((ws.length : Int) - r21)) (by kernel_rfl) (congrArg (Value.int .i64) (wrap_i64 h25.1 h25.2)) ?_
      obtain ⟨h26, hm⟩ := need_some hm
      refine ops_val (v := .int .i64 (IntKind.i64.wrap (64 * ((ws.length : Int) - r21)))) (v' := .int .i64 (64 * ((ws.length : Int) - r21))) (by kernel_rfl) (congrArg (Value.int .i64) (wrap_i64 h26.1 h26.2)) ?_
      obtain ⟨h27, hm⟩ := need_some hm
      refine ops_R (v := .int .i64 (many.tmod (64 * ((ws.length : Int) - r21)))) (runs_rem (k := .i64) (a := many) (b := (64 * ((ws.length : Int) - r21))) (by kernel_rfl) h27 rfl) ?_
      obtain ⟨h28, hm⟩ := need_some hm
      refine ops_val (v := .int .i64 (IntKind.i64.wrap (1 + (many.tmod (64 * ((ws.length : Int) - r21)))))) (v' := .int .i64 (1 + (many.tmod (64 * ((ws.length : Int) - r21))))) (by kernel_rfl) (congrArg (Value.int .i64) (wrap_i64 h28.1 h28.2)) ?_
      refine ops_run 1 (by kernel_rfl) ?_
      obtain ⟨r29, h30, hm⟩ := bind_some hm
      replace h30 := some_inj h30
      refine ops_set 8 (v := .int .i64 r29) (Eq.trans (by kernel_rfl) (congrArg (Value.int .i64) h30)) ?_
      refine ops_done (by kernel_rfl) ?_
      refine hK23 _ _ ?_
      clear hK23
      refine W.seq fun K31 hK31 => ?_
      refine W.region ?_
      refine ops_run 1 (by kernel_rfl) ?_
      obtain ⟨h33, hm⟩ := need_some hm
      refine ops_call (pre := []) hs (by kernel_rfl) (new_spec (hc := (hs.oldCells hw)) (hn := hw0) (hsz := h33) B _) ?_
      rintro _ _ w34 ⟨b32, rfl, rfl⟩ hs35
      have hs36 : St B w [] w34 [viewA (ptr b32) ws ([])] := hs35
      refine ops_run 1 (by kernel_rfl) ?_
      refine ops_done (by kernel_rfl) ?_
      refine hK31 _ _ ?_
      clear hK31
      refine W.seq fun K37 hK37 => ?_
      refine W.region ?_
      refine ops_run 3 (by kernel_rfl) ?_
      obtain ⟨h38, hm⟩ := need_some hm
      obtain ⟨h39, hm⟩ := need_some hm
      refine ops_call (pre := []) hs36 (by kernel_rfl) (of_ok (hv := (hs36.entAt 0 rfl viewA_at)) (hz := h38) (ho := h39) B _) ?_
      rintro _ _ w41 ⟨b40, rfl, rfl⟩ hs42
      have hs43 : St B w [] w41 [blk b40 (.cells [(.pointer (some ⟨b32, 0, none⟩)), (.int .i64 r21), (.int .i64 r29)].toArray 151 (0, 0)), viewA (ptr b32) ws ([])] := hs42
      refine ops_run 5 (by kernel_rfl) ?_
      refine ops_done (by kernel_rfl) ?_
      refine hK37 _ _ ?_
      clear hK37
      refine W.seq fun K44 hK44 => ?_
      refine W.seq fun K45 hK45 => ?_
      refine W.region ?_
      refine ops_run 10 (by kernel_rfl) ?_
      refine ops_done (by kernel_rfl) ?_
      refine hK45 _ _ ?_
      clear hK45
      refine W.cond_false false (by kernel_rfl) rfl ?_
      refine W.skip ?_
      refine hK44 _ _ ?_
      clear hK44
      refine W.seq fun K46 hK46 => ?_
      refine W.region ?_
      refine ops_run 1 (by kernel_rfl) ?_
      refine ops_done (by kernel_rfl) ?_
      refine hK46 _ _ ?_
      clear hK46
      refine W.seq_join (fun s_ w_ => ∃ (l47 : List (Int × Int)), (∃ us, s_ = slots 196 [(0, (.slice wa ws.length wc)), (7, (.int .i64 r21)), (8, (.int .i64 r29)), (9, (.pointer (some ⟨b32, 0, none⟩))), (10, (.pointer (some ⟨b40, 0, none⟩)))] us) ∧ St B w [] w_ [viewA (ptr b32) ws l47, blk b40 (.cells [(.pointer (some ⟨b32, 0, none⟩)), (.int .i64 r21), (.int .i64 r29)].toArray 151 (0, 0))] ∧ bitmapfills_J1 ws r21 r29 l47 = some true) ?_ ?_
      ·
        rintro _ w48 ⟨l47, ⟨us, rfl⟩, hs49, hm⟩
        unfold bitmapfills_J1 at hm
        refine W.seq fun K50 hK50 => ?_
        refine W.region ?_
        refine ops_run 1 (by kernel_rfl) ?_
        refine ops_call (pre := []) hs49 (by kernel_rfl) (flat_spec (hv := (hs49.entAt 0 rfl viewA_at)) B _) ?_
        rintro _ _ w53 ⟨a51, c52, rfl, rfl⟩ hs54
        have hs55 : St B w [] w53 [kU64.row a51 c52 (vflat ws l47), viewA (ptr b32) ws l47, blk b40 (.cells [(.pointer (some ⟨b32, 0, none⟩)), (.int .i64 r21), (.int .i64 r29)].toArray 151 (0, 0))] := hs54
        refine ops_run 1 (by kernel_rfl) ?_
        refine ops_done (by kernel_rfl) ?_
        refine hK50 _ _ ?_
        clear hK50
        refine W.seq fun K56 hK56 => ?_
        refine W.seq fun K57 hK57 => ?_
        refine W.region ?_
        refine ops_run 1 (by kernel_rfl) ?_
        obtain ⟨r58, h59, hm⟩ := bind_some hm
        refine ops_call (pre := []) hs55 (by kernel_rfl) (mcount_walk (hmb := (hs55.heapAt 2 rfl)) (hv := (hs55.entAt 1 rfl viewA_at)) (hm := h59) B _) ?_
        rintro _ _ w60 ⟨rfl, rfl⟩ hs61
        have hs62 : St B w [] w60 [kU64.row a51 c52 (vflat ws l47), viewA (ptr b32) ws l47, blk b40 (.cells [(.pointer (some ⟨b32, 0, none⟩)), (.int .i64 r21), (.int .i64 r29)].toArray 151 (0, 0))] := hs61
        refine ops_run 3 (by kernel_rfl) ?_
        rcases Bool.eq_false_or_eq_true (!decide (r58 = r29)) with h63 | h63
        rotate_left
        ·
          have h63p : r58 = r29 := of_decide_eq_true (bnot_false h63)
          replace hm := ite_yes hm h63p
          refine ops_set 136 (v := .bool false) (eq_bool_of (by kernel_rfl) h63) ?_
          refine ops_set 135 (v := .bool false) (eq_bool_of (by kernel_rfl) h63) ?_
          refine ops_run 6 (by kernel_rfl) ?_
          refine ops_done (by kernel_rfl) ?_
          refine hK57 _ _ ?_
          clear hK57
          refine W.cond (!decide ((((vflat ws l47).length) : Int) = (ws.length : Int))) (by kernel_rfl) (fun h64 => ?_) (fun h64 => ?_)
          rotate_left
          ·
            have h64p : (((vflat ws l47).length) : Int) = (ws.length : Int) := of_decide_eq_true (bnot_false h64)
            replace hm := ite_yes hm h64p
            refine W.skip ?_
            refine hK56 _ _ ?_
            clear hK56
            refine W.seq fun K65 hK65 => ?_
            refine W.seq fun K66 hK66 => ?_
            refine W.region ?_
            refine ops_run 1 (by kernel_rfl) ?_
            refine ops_done (by kernel_rfl) ?_
            refine hK66 _ _ ?_
            clear hK66
            refine W.block ?_
            refine W.loop_iter (G := Int) (σ := Int) (fun | p67 => p67) (fun | p67, s_, w_ => (∃ us, s_ = slots 196 [(0, (.slice wa ws.length wc)), (7, (.int .i64 r21)), (8, (.int .i64 r29)), (17, (.slice a51 ((vflat ws l47).length) c52)), (18, (.int .i64 p67))] us) ∧ St B w [] w_ [kU64.row a51 c52 (vflat ws l47), viewA (ptr b32) ws l47, blk b40 (.cells [(.pointer (some ⟨b32, 0, none⟩)), (.int .i64 r21), (.int .i64 r29)].toArray 151 (0, 0))]) 0 ⟨slots_intro _ (by kernel_rfl), hs62⟩ hm ?_
            rintro k68 ih69 p67 _ w70 ⟨⟨us, rfl⟩, hs71⟩ hm
            replace hm : bitmapfills_B2 ws r21 r29 l47 k68 p67 = some true := hm
            unfold bitmapfills_B2 at hm
            refine W.seq fun K72 hK72 => ?_
            refine W.seq fun K73 hK73 => ?_
            refine W.region ?_
            refine ops_run 3 (by kernel_rfl) ?_
            obtain ⟨h74, hm⟩ := need_some hm
            refine ops_val (v := .int .i64 (IntKind.i64.wrap (64 * (ws.length : Int)))) (v' := .int .i64 (64 * (ws.length : Int))) (by kernel_rfl) (congrArg (Value.int .i64) (wrap_i64 h74.1 h74.2)) ?_
            refine ops_run 1 (by kernel_rfl) ?_
            refine ops_done (by kernel_rfl) ?_
            refine hK73 _ _ ?_
            clear hK73
            refine W.cond (decide (p67 < (64 * (ws.length : Int)))) (by kernel_rfl) (fun h75 => ?_) (fun h75 => ?_)
            ·
              have h75p : p67 < (64 * (ws.length : Int)) := of_decide_eq_true h75
              replace hm := ite_yes hm h75p
              refine W.skip ?_
              refine hK72 _ _ ?_
              clear hK72
              refine W.seq fun K76 hK76 => ?_
              refine W.block ?_
              refine W.seq fun K77 hK77 => ?_
              refine W.region ?_
              refine ops_run 2 (by kernel_rfl) ?_
              obtain ⟨h78, hm⟩ := need_some hm
              refine ops_R (v := .int .i64 (p67.tdiv 64)) (runs_quo (k := .i64) (a := p67) (b := 64) (by kernel_rfl) (by decide) (wrap_i64 h78.1 h78.2)) ?_
              obtain ⟨h80, hm⟩ := need_some hm
              have hk79 := lt_toNat h80
              refine ops_R (runs_index (a := a51) (n := (vflat ws l47).length) (z := (p67.tdiv 64)) (size := 1) ((p67.tdiv 64).toNat) (nat_of h80.1) hk79 (kU64.addr (St.kcells kU64 hs71 0 rfl) hk79) (by kernel_rfl)) ?_
              refine ops_R (runs_load (ad := ((adr a51 (((p67.tdiv 64).toNat) * 1)).add 0)) (v := (.int .u64 ((vflat ws l47).getD ((p67.tdiv 64).toNat) 0))) (by kernel_rfl) (kU64.at (St.kcells kU64 hs71 0 rfl) hk79 0 0 rfl)) ?_
              refine ops_run 2 (by kernel_rfl) ?_
              obtain ⟨h81, hm⟩ := need_some hm
              refine ops_val (v := .int .u64 (IntKind.u64.wrap (p67.tmod 64))) (v' := .int .u64 (p67.tmod 64)) (by kernel_rfl) (congrArg (Value.int .u64) (wrap_u64 h81.1 (Int.lt_of_le_of_lt h81.2 (by decide)))) ?_
              obtain ⟨h82, hm⟩ := need_some hm
              refine ops_R (v := .int .u64 (shrK .u64 ((vflat ws l47).getD ((p67.tdiv 64).toNat) 0) (p67.tmod 64))) (runs_shift (b := false) (k := .u64) (x := ((vflat ws l47).getD ((p67.tdiv 64).toNat) 0)) (y := p67.tmod 64) (by kernel_rfl) h82) ?_
              refine ops_run 2 (by kernel_rfl) ?_
              obtain ⟨r83, h84, hm⟩ := bind_some hm
              replace h84 := some_inj h84
              refine ops_set 19 (v := .int .u64 r83) (Eq.trans (by kernel_rfl) (congrArg (Value.int .u64) h84)) ?_
              refine ops_done (by kernel_rfl) ?_
              refine hK77 _ _ ?_
              clear hK77
              refine W.seq_join (fun s_ w_ => ∃ (p85 : Bool), (∃ us, s_ = slots 196 [(0, (.slice wa ws.length wc)), (7, (.int .i64 r21)), (8, (.int .i64 r29)), (17, (.slice a51 ((vflat ws l47).length) c52)), (18, (.int .i64 p67)), (19, (.int .u64 r83)), (20, (.bool p85))] us) ∧ St B w [] w_ [kU64.row a51 c52 (vflat ws l47), viewA (ptr b32) ws l47, blk b40 (.cells [(.pointer (some ⟨b32, 0, none⟩)), (.int .i64 r21), (.int .i64 r29)].toArray 151 (0, 0))] ∧ bitmapfills_J3 ws k68 p67 r83 p85 = some true) ?_ ?_
              ·
                rintro _ w86 ⟨p85, ⟨us, rfl⟩, hs87, hm⟩
                unfold bitmapfills_J3 at hm
                refine W.seq fun K88 hK88 => ?_
                refine W.region ?_
                refine ops_run 2 (by kernel_rfl) ?_
                rcases Bool.eq_false_or_eq_true p85 with h89 | h89
                ·
                  have h89p : p85 = true := h89
                  replace hm := ite_yes hm h89p
                  refine ops_set 173 (v := .bool true) (eq_bool_of (by kernel_rfl) h89) ?_
                  refine ops_set 20 (v := .bool true) (eq_bool_of (by kernel_rfl) h89) ?_
                  refine ops_set 172 (v := .bool true) (eq_bool_of (by kernel_rfl) h89) ?_
                  refine ops_run 4 (by kernel_rfl) ?_
                  rcases Bool.eq_false_or_eq_true (!decide (r83 = 1)) with h90 | h90
                  rotate_left
                  ·
                    have h90p : r83 = 1 := of_decide_eq_true (bnot_false h90)
                    replace hm := ite_yes hm h90p
                    refine ops_set 177 (v := .bool false) (eq_bool_of (by kernel_rfl) h90) ?_
                    refine ops_set 175 (v := .bool false) (eq_bool_of (by kernel_rfl) h90) ?_
                    refine ops_set 176 (v := .bool false) (eq_bool_of (by kernel_rfl) h90) ?_
                    refine ops_run 17 (by kernel_rfl) ?_
                    refine ops_done (by kernel_rfl) ?_
                    refine hK88 _ _ ?_
                    clear hK88
                    refine W.cond_false false (by kernel_rfl) rfl ?_
                    refine W.skip ?_
                    refine normal_block ?_
                    refine hK76 _ _ ?_
                    clear hK76
                    refine W.region ?_
                    refine ops_run 1 (by kernel_rfl) ?_
                    obtain ⟨h91, hm⟩ := need_some hm
                    refine ops_val (v := .int .i64 (IntKind.i64.wrap (p67 + 1))) (v' := .int .i64 (p67 + 1)) (by kernel_rfl) (congrArg (Value.int .i64) (wrap_i64 h91.1 h91.2)) ?_
                    refine ops_run 1 (by kernel_rfl) ?_
                    refine ops_done (by kernel_rfl) ?_
                    refine loopAt_next ?_
                    exact ih69 (p67 + 1) _ _ ⟨slots_intro _ (by kernel_rfl), hs87⟩ hm
                  ·
                    have h90p : ¬ (r83 = 1) := of_decide_eq_false (bnot_true h90)
                    replace hm := ite_no hm h90p
                    refine ops_set 177 (v := .bool true) (eq_bool_of (by kernel_rfl) h90) ?_
                    refine ops_set 175 (v := .bool true) (eq_bool_of (by kernel_rfl) h90) ?_
                    refine ops_set 176 (v := .bool true) (eq_bool_of (by kernel_rfl) h90) ?_
                    refine ops_run 17 (by kernel_rfl) ?_
                    refine ops_done (by kernel_rfl) ?_
                    refine hK88 _ _ ?_
                    clear hK88
                    refine W.cond_true true (by kernel_rfl) rfl ?_
                    refine W.seq fun K92 hK92 => ?_
                    refine W.region ?_
                    refine ops_run 1 (by kernel_rfl) ?_
                    refine ops_done (by kernel_rfl) ?_
                    refine hK92 _ _ ?_
                    clear hK92
                    refine W.ret (ret_block (ret_seq (ret_seq (ret_block (ret_seq ?_)))))
                    have hs93 : St B w [] w86 [] := St.take (H := []) hs87
                    refine ret_of (.bool false) (by kernel_rfl) ⟨_, ⟨congrArg Value.bool (some_inj hm), rfl⟩, hs93⟩
                ·
                  have h89p : ¬ (p85 = true) := ne_true_of_eq_false h89
                  replace hm := ite_no hm h89p
                  refine ops_set 173 (v := .bool false) (eq_bool_of (by kernel_rfl) h89) ?_
                  refine ops_set 20 (v := .bool false) (eq_bool_of (by kernel_rfl) h89) ?_
                  refine ops_set 172 (v := .bool false) (eq_bool_of (by kernel_rfl) h89) ?_
                  refine ops_run 10 (by kernel_rfl) ?_
                  obtain ⟨h94, hm⟩ := need_some hm
                  refine ops_R (v := .int .i64 (p67.tdiv 64)) (runs_quo (k := .i64) (a := p67) (b := 64) (by kernel_rfl) (by decide) (wrap_i64 h94.1 h94.2)) ?_
                  obtain ⟨h96, hm⟩ := need_some hm
                  have hk95 := lt_toNat h96
                  refine ops_R (runs_index (a := wa) (n := ws.length) (z := (p67.tdiv 64)) (size := 1) ((p67.tdiv 64).toNat) (nat_of h96.1) hk95 (kU64.addr (hs87.oldCells hw) hk95) (by kernel_rfl)) ?_
                  refine ops_R (runs_load (ad := ((adr wa (((p67.tdiv 64).toNat) * 1)).add 0)) (v := (.int .u64 (ws.getD ((p67.tdiv 64).toNat) 0))) (by kernel_rfl) (kU64.at (hs87.oldCells hw) hk95 0 0 rfl)) ?_
                  refine ops_run 2 (by kernel_rfl) ?_
                  obtain ⟨h97, hm⟩ := need_some hm
                  refine ops_val (v := .int .u64 (IntKind.u64.wrap (p67.tmod 64))) (v' := .int .u64 (p67.tmod 64)) (by kernel_rfl) (congrArg (Value.int .u64) (wrap_u64 h97.1 (Int.lt_of_le_of_lt h97.2 (by decide)))) ?_
                  obtain ⟨h98, hm⟩ := need_some hm
                  refine ops_R (v := .int .u64 (shrK .u64 (ws.getD ((p67.tdiv 64).toNat) 0) (p67.tmod 64))) (runs_shift (b := false) (k := .u64) (x := (ws.getD ((p67.tdiv 64).toNat) 0)) (y := p67.tmod 64) (by kernel_rfl) h98) ?_
                  refine ops_run 4 (by kernel_rfl) ?_
                  refine ops_done (by kernel_rfl) ?_
                  refine hK88 _ _ ?_
                  clear hK88
                  refine W.cond (!decide (r83 = (shrK .u64 (ws.getD ((p67.tdiv 64).toNat) 0) (p67.tmod 64)).tmod 2)) (by kernel_rfl) (fun h99 => ?_) (fun h99 => ?_)
                  rotate_left
                  ·
                    have h99p : r83 = (shrK .u64 (ws.getD ((p67.tdiv 64).toNat) 0) (p67.tmod 64)).tmod 2 := of_decide_eq_true (bnot_false h99)
                    replace hm := ite_yes hm h99p
                    refine W.skip ?_
                    refine normal_block ?_
                    refine hK76 _ _ ?_
                    clear hK76
                    refine W.region ?_
                    refine ops_run 1 (by kernel_rfl) ?_
                    obtain ⟨h100, hm⟩ := need_some hm
                    refine ops_val (v := .int .i64 (IntKind.i64.wrap (p67 + 1))) (v' := .int .i64 (p67 + 1)) (by kernel_rfl) (congrArg (Value.int .i64) (wrap_i64 h100.1 h100.2)) ?_
                    refine ops_run 1 (by kernel_rfl) ?_
                    refine ops_done (by kernel_rfl) ?_
                    refine loopAt_next ?_
                    exact ih69 (p67 + 1) _ _ ⟨slots_intro _ (by kernel_rfl), hs87⟩ hm
                  ·
                    have h99p : ¬ (r83 = (shrK .u64 (ws.getD ((p67.tdiv 64).toNat) 0) (p67.tmod 64)).tmod 2) := of_decide_eq_false (bnot_true h99)
                    replace hm := ite_no hm h99p
                    refine W.seq fun K101 hK101 => ?_
                    refine W.region ?_
                    refine ops_run 1 (by kernel_rfl) ?_
                    refine ops_done (by kernel_rfl) ?_
                    refine hK101 _ _ ?_
                    clear hK101
                    refine W.ret (ret_block (ret_seq (ret_seq (ret_block (ret_seq ?_)))))
                    have hs102 : St B w [] w86 [] := St.take (H := []) hs87
                    refine ret_of (.bool false) (by kernel_rfl) ⟨_, ⟨congrArg Value.bool (some_inj hm), rfl⟩, hs102⟩
              ·
                refine W.region ?_
                refine ops_run 2 (by kernel_rfl) ?_
                obtain ⟨h103, hm⟩ := need_some hm
                refine ops_val (v := .int .i64 (IntKind.i64.wrap (64 * r21))) (v' := .int .i64 (64 * r21)) (by kernel_rfl) (congrArg (Value.int .i64) (wrap_i64 h103.1 h103.2)) ?_
                refine ops_run 2 (by kernel_rfl) ?_
                rcases Bool.eq_false_or_eq_true (decide (p67 ≥ (64 * r21))) with h104 | h104
                ·
                  have h104p : p67 ≥ (64 * r21) := of_decide_eq_true h104
                  replace hm := ite_yes hm h104p
                  refine ops_set 164 (v := .bool true) (eq_bool_of (by kernel_rfl) h104) ?_
                  refine ops_set 163 (v := .bool true) (eq_bool_of (by kernel_rfl) h104) ?_
                  refine ops_run 2 (by kernel_rfl) ?_
                  obtain ⟨h105, hm⟩ := need_some hm
                  refine ops_val (v := .int .i64 (IntKind.i64.wrap (64 * r21))) (v' := .int .i64 (64 * r21)) (by kernel_rfl) (congrArg (Value.int .i64) (wrap_i64 h105.1 h105.2)) ?_
                  refine ops_run 1 (by kernel_rfl) ?_
                  obtain ⟨h106, hm⟩ := need_some hm
                  refine ops_val (v := .int .i64 (IntKind.i64.wrap ((64 * r21) + r29))) (v' := .int .i64 ((64 * r21) + r29)) (by kernel_rfl) (congrArg (Value.int .i64) (wrap_i64 h106.1 h106.2)) ?_
                  refine ops_run 3 (by kernel_rfl) ?_
                  refine ops_done (by kernel_rfl) ?_
                  exact ⟨(decide (p67 < ((64 * r21) + r29))), slots_intro _ (by kernel_rfl), hs71, hm⟩
                ·
                  have h104p : ¬ (p67 ≥ (64 * r21)) := of_decide_eq_false h104
                  replace hm := ite_no hm h104p
                  refine ops_set 164 (v := .bool false) (eq_bool_of (by kernel_rfl) h104) ?_
                  refine ops_set 163 (v := .bool false) (eq_bool_of (by kernel_rfl) h104) ?_
                  refine ops_run 8 (by kernel_rfl) ?_
                  refine ops_done (by kernel_rfl) ?_
                  exact ⟨false, slots_intro _ (by kernel_rfl), hs71, hm⟩
            ·
              have h75p : ¬ (p67 < (64 * (ws.length : Int))) := of_decide_eq_false h75
              replace hm := ite_no hm h75p
              refine W.exit (exit_seq (exit_seq (exit_here ?_)))
              refine hK65 _ _ ?_
              clear hK65
              refine W.seq fun K107 hK107 => ?_
              refine W.region ?_
              obtain ⟨r108, h109, hm⟩ := bind_some hm
              refine ops_call (pre := []) hs71 (by kernel_rfl) (works06_walk (hT := (hs71.oldCells hT)) (hm := h109) B _) ?_
              rintro _ _ w110 ⟨rfl, rfl⟩ hs111
              have hs112 : St B w [] w110 [kU64.row a51 c52 (vflat ws l47), viewA (ptr b32) ws l47, blk b40 (.cells [(.pointer (some ⟨b32, 0, none⟩)), (.int .i64 r21), (.int .i64 r29)].toArray 151 (0, 0))] := hs111
              refine ops_run 1 (by kernel_rfl) ?_
              refine ops_done (by kernel_rfl) ?_
              refine hK107 _ _ ?_
              clear hK107
              refine W.ret ?_
              have hs113 : St B w [] w110 [] := St.take (H := []) hs112
              refine ret_of (.bool r108) (by kernel_rfl) ⟨_, ⟨congrArg Value.bool (some_inj hm), rfl⟩, hs113⟩
          ·
            have h64p : ¬ ((((vflat ws l47).length) : Int) = (ws.length : Int)) := of_decide_eq_false (bnot_true h64)
            replace hm := ite_no hm h64p
            refine W.seq fun K114 hK114 => ?_
            refine W.region ?_
            refine ops_run 1 (by kernel_rfl) ?_
            refine ops_done (by kernel_rfl) ?_
            refine hK114 _ _ ?_
            clear hK114
            refine W.ret (ret_seq ?_)
            have hs115 : St B w [] w60 [] := St.take (H := []) hs62
            refine ret_of (.bool false) (by kernel_rfl) ⟨_, ⟨congrArg Value.bool (some_inj hm), rfl⟩, hs115⟩
        ·
          have h63p : ¬ (r58 = r29) := of_decide_eq_false (bnot_true h63)
          replace hm := ite_no hm h63p
          refine ops_set 136 (v := .bool true) (eq_bool_of (by kernel_rfl) h63) ?_
          refine ops_set 135 (v := .bool true) (eq_bool_of (by kernel_rfl) h63) ?_
          refine ops_run 6 (by kernel_rfl) ?_
          refine ops_done (by kernel_rfl) ?_
          refine hK57 _ _ ?_
          clear hK57
          refine W.cond_true true (by kernel_rfl) rfl ?_
          refine W.seq fun K116 hK116 => ?_
          refine W.region ?_
          refine ops_run 1 (by kernel_rfl) ?_
          refine ops_done (by kernel_rfl) ?_
          refine hK116 _ _ ?_
          clear hK116
          refine W.ret (ret_seq ?_)
          have hs117 : St B w [] w60 [] := St.take (H := []) hs62
          refine ret_of (.bool false) (by kernel_rfl) ⟨_, ⟨congrArg Value.bool (some_inj hm), rfl⟩, hs117⟩
      ·
        refine W.seq fun K118 hK118 => ?_
        refine W.region ?_
        refine ops_run 1 (by kernel_rfl) ?_
        refine ops_done (by kernel_rfl) ?_
        refine hK118 _ _ ?_
        clear hK118
        refine W.block ?_
        have hs126 : St B w [] w41 [viewA (ptr b32) ws ([]), blk b40 (.cells [(.pointer (some ⟨b32, 0, none⟩)), (.int .i64 r21), (.int .i64 r29)].toArray 151 (0, 0))] := hs43.front 1 (by simp)
        refine W.loop_iter (G := (List (Int × Int)) × Int × Int) (σ := (List (Int × Int)) × Int × Int) (fun | (l119, p120, p121) => (l119, p120, p121)) (fun | (l119, p120, p121), s_, w_ => (∃ us, s_ = slots 196 [(0, (.slice wa ws.length wc)), (7, (.int .i64 r21)), (8, (.int .i64 r29)), (9, (.pointer (some ⟨b32, 0, none⟩))), (10, (.pointer (some ⟨b40, 0, none⟩))), (12, (.int .i64 p120)), (13, (.int .i64 p121))] us) ∧ St B w [] w_ [viewA (ptr b32) ws l119, blk b40 (.cells [(.pointer (some ⟨b32, 0, none⟩)), (.int .i64 r21), (.int .i64 r29)].toArray 151 (0, 0))]) ([], (-1), 0) ⟨slots_intro _ (by kernel_rfl), hs126⟩ hm ?_
        rintro k122 ih123 ⟨l119, p120, p121⟩ _ w124 ⟨⟨us, rfl⟩, hs125⟩ hm
        replace hm : bitmapfills_B0 ws r21 r29 k122 l119 p120 p121 = some true := hm
        unfold bitmapfills_B0 at hm
        refine W.seq fun K127 hK127 => ?_
        refine W.seq fun K128 hK128 => ?_
        refine W.region ?_
        refine ops_run 3 (by kernel_rfl) ?_
        refine ops_done (by kernel_rfl) ?_
        refine hK128 _ _ ?_
        clear hK128
        refine W.cond (decide (p121 ≤ r29)) (by kernel_rfl) (fun h129 => ?_) (fun h129 => ?_)
        ·
          have h129p : p121 ≤ r29 := of_decide_eq_true h129
          replace hm := ite_yes hm h129p
          refine W.skip ?_
          refine hK127 _ _ ?_
          clear hK127
          refine W.seq fun K130 hK130 => ?_
          refine W.block ?_
          refine W.seq fun K131 hK131 => ?_
          refine W.region ?_
          refine ops_run 1 (by kernel_rfl) ?_
          obtain ⟨r132, h133, hm⟩ := bind_some hm
          refine ops_call (pre := []) hs125 (by kernel_rfl) (mclear_walk (hmb := (hs125.heapAt 1 rfl)) (hv := (hs125.entAt 0 rfl viewA_at)) (hT := (hs125.oldCells hT)) (hm := h133) B _) ?_
          rintro _ _ w134 ⟨rfl, rfl⟩ hs135
          have hs136 : St B w [] w134 [viewA (ptr b32) ws l119, blk b40 (.cells [(.pointer (some ⟨b32, 0, none⟩)), (.int .i64 r21), (.int .i64 r29)].toArray 151 (0, 0))] := hs135
          refine ops_run 5 (by kernel_rfl) ?_
          refine ops_done (by kernel_rfl) ?_
          refine hK131 _ _ ?_
          clear hK131
          refine W.seq fun K137 hK137 => ?_
          refine W.seq fun K138 hK138 => ?_
          refine W.region ?_
          refine ops_run 2 (by kernel_rfl) ?_
          refine ops_done (by kernel_rfl) ?_
          refine hK138 _ _ ?_
          clear hK138
          refine W.cond (!r132.2) (by kernel_rfl) (fun h139 => ?_) (fun h139 => ?_)
          rotate_left
          ·
            have h139p : r132.2 = true := (bnot_false h139)
            replace hm := ite_yes hm h139p
            refine W.skip ?_
            refine hK137 _ _ ?_
            clear hK137
            refine W.seq fun K140 hK140 => ?_
            refine W.seq fun K141 hK141 => ?_
            refine W.region ?_
            refine ops_run 4 (by kernel_rfl) ?_
            rcases Bool.eq_false_or_eq_true (decide (r132.1 ≤ p120)) with h142 | h142
            ·
              have h142p : r132.1 ≤ p120 := of_decide_eq_true h142
              replace hm := ite_yes hm h142p
              refine ops_set 78 (v := .bool true) (eq_bool_of (by kernel_rfl) h142) ?_
              refine ops_set 77 (v := .bool true) (eq_bool_of (by kernel_rfl) h142) ?_
              refine ops_run 30 (by kernel_rfl) ?_
              refine ops_done (by kernel_rfl) ?_
              refine hK141 _ _ ?_
              clear hK141
              refine W.cond_true true (by kernel_rfl) rfl ?_
              refine W.seq fun K143 hK143 => ?_
              refine W.region ?_
              refine ops_run 1 (by kernel_rfl) ?_
              refine ops_done (by kernel_rfl) ?_
              refine hK143 _ _ ?_
              clear hK143
              refine W.ret (ret_seq (ret_block (ret_seq (ret_seq (ret_block (ret_seq ?_))))))
              have hs144 : St B w [] w134 [] := St.take (H := []) hs136
              refine ret_of (.bool false) (by kernel_rfl) ⟨_, ⟨congrArg Value.bool (some_inj hm), rfl⟩, hs144⟩
            ·
              have h142p : ¬ (r132.1 ≤ p120) := of_decide_eq_false h142
              replace hm := ite_no hm h142p
              refine ops_set 78 (v := .bool false) (eq_bool_of (by kernel_rfl) h142) ?_
              refine ops_set 77 (v := .bool false) (eq_bool_of (by kernel_rfl) h142) ?_
              refine ops_run 5 (by kernel_rfl) ?_
              rcases Bool.eq_false_or_eq_true (decide (r132.1 ≥ r29)) with h145 | h145
              ·
                have h145p : r132.1 ≥ r29 := of_decide_eq_true h145
                replace hm := ite_yes hm h145p
                refine ops_set 83 (v := .bool true) (eq_bool_of (by kernel_rfl) h145) ?_
                refine ops_set 81 (v := .bool true) (eq_bool_of (by kernel_rfl) h145) ?_
                refine ops_set 82 (v := .bool true) (eq_bool_of (by kernel_rfl) h145) ?_
                refine ops_run 25 (by kernel_rfl) ?_
                refine ops_done (by kernel_rfl) ?_
                refine hK141 _ _ ?_
                clear hK141
                refine W.cond_true true (by kernel_rfl) rfl ?_
                refine W.seq fun K146 hK146 => ?_
                refine W.region ?_
                refine ops_run 1 (by kernel_rfl) ?_
                refine ops_done (by kernel_rfl) ?_
                refine hK146 _ _ ?_
                clear hK146
                refine W.ret (ret_seq (ret_block (ret_seq (ret_seq (ret_block (ret_seq ?_))))))
                have hs147 : St B w [] w134 [] := St.take (H := []) hs136
                refine ret_of (.bool false) (by kernel_rfl) ⟨_, ⟨congrArg Value.bool (some_inj hm), rfl⟩, hs147⟩
              ·
                have h145p : ¬ (r132.1 ≥ r29) := of_decide_eq_false h145
                replace hm := ite_no hm h145p
                refine ops_set 83 (v := .bool false) (eq_bool_of (by kernel_rfl) h145) ?_
                refine ops_set 81 (v := .bool false) (eq_bool_of (by kernel_rfl) h145) ?_
                refine ops_set 82 (v := .bool false) (eq_bool_of (by kernel_rfl) h145) ?_
                refine ops_run 3 (by kernel_rfl) ?_
                obtain ⟨h148, hm⟩ := need_some hm
                refine ops_R (v := .int .i64 (r132.1.tdiv 64)) (runs_quo (k := .i64) (a := r132.1) (b := 64) (by kernel_rfl) (by decide) (wrap_i64 h148.1 h148.2)) ?_
                obtain ⟨h149, hm⟩ := need_some hm
                refine ops_val (v := .int .i64 (IntKind.i64.wrap (r21 + (r132.1.tdiv 64)))) (v' := .int .i64 (r21 + (r132.1.tdiv 64))) (by kernel_rfl) (congrArg (Value.int .i64) (wrap_i64 h149.1 h149.2)) ?_
                obtain ⟨h151, hm⟩ := need_some hm
                have hk150 := lt_toNat h151
                refine ops_R (runs_index (a := wa) (n := ws.length) (z := (r21 + (r132.1.tdiv 64))) (size := 1) ((r21 + (r132.1.tdiv 64)).toNat) (nat_of h151.1) hk150 (kU64.addr (hs136.oldCells hw) hk150) (by kernel_rfl)) ?_
                refine ops_R (runs_load (ad := ((adr wa (((r21 + (r132.1.tdiv 64)).toNat) * 1)).add 0)) (v := (.int .u64 (ws.getD ((r21 + (r132.1.tdiv 64)).toNat) 0))) (by kernel_rfl) (kU64.at (hs136.oldCells hw) hk150 0 0 rfl)) ?_
                refine ops_run 2 (by kernel_rfl) ?_
                obtain ⟨h152, hm⟩ := need_some hm
                refine ops_val (v := .int .u64 (IntKind.u64.wrap (r132.1.tmod 64))) (v' := .int .u64 (r132.1.tmod 64)) (by kernel_rfl) (congrArg (Value.int .u64) (wrap_u64 h152.1 (Int.lt_of_le_of_lt h152.2 (by decide)))) ?_
                obtain ⟨h153, hm⟩ := need_some hm
                refine ops_R (v := .int .u64 (shrK .u64 (ws.getD ((r21 + (r132.1.tdiv 64)).toNat) 0) (r132.1.tmod 64))) (runs_shift (b := false) (k := .u64) (x := (ws.getD ((r21 + (r132.1.tdiv 64)).toNat) 0)) (y := r132.1.tmod 64) (by kernel_rfl) h153) ?_
                refine ops_run 4 (by kernel_rfl) ?_
                rcases Bool.eq_false_or_eq_true (decide ((shrK .u64 (ws.getD ((r21 + (r132.1.tdiv 64)).toNat) 0) (r132.1.tmod 64)).tmod 2 = 1)) with h154 | h154
                ·
                  have h154p : (shrK .u64 (ws.getD ((r21 + (r132.1.tdiv 64)).toNat) 0) (r132.1.tmod 64)).tmod 2 = 1 := of_decide_eq_true h154
                  replace hm := ite_yes hm h154p
                  refine ops_set 98 (v := .bool true) (eq_bool_of (by kernel_rfl) h154) ?_
                  refine ops_set 96 (v := .bool true) (eq_bool_of (by kernel_rfl) h154) ?_
                  refine ops_set 97 (v := .bool true) (eq_bool_of (by kernel_rfl) h154) ?_
                  refine ops_run 10 (by kernel_rfl) ?_
                  refine ops_done (by kernel_rfl) ?_
                  refine hK141 _ _ ?_
                  clear hK141
                  refine W.cond_true true (by kernel_rfl) rfl ?_
                  refine W.seq fun K155 hK155 => ?_
                  refine W.region ?_
                  refine ops_run 1 (by kernel_rfl) ?_
                  refine ops_done (by kernel_rfl) ?_
                  refine hK155 _ _ ?_
                  clear hK155
                  refine W.ret (ret_seq (ret_block (ret_seq (ret_seq (ret_block (ret_seq ?_))))))
                  have hs156 : St B w [] w134 [] := St.take (H := []) hs136
                  refine ret_of (.bool false) (by kernel_rfl) ⟨_, ⟨congrArg Value.bool (some_inj hm), rfl⟩, hs156⟩
                ·
                  have h154p : ¬ ((shrK .u64 (ws.getD ((r21 + (r132.1.tdiv 64)).toNat) 0) (r132.1.tmod 64)).tmod 2 = 1) := of_decide_eq_false h154
                  replace hm := ite_no hm h154p
                  refine ops_set 98 (v := .bool false) (eq_bool_of (by kernel_rfl) h154) ?_
                  refine ops_set 96 (v := .bool false) (eq_bool_of (by kernel_rfl) h154) ?_
                  refine ops_set 97 (v := .bool false) (eq_bool_of (by kernel_rfl) h154) ?_
                  refine ops_run 2 (by kernel_rfl) ?_
                  obtain ⟨r157, h158, hm⟩ := bind_some hm
                  have hs159 : St B w [] w134 [blk b40 (.cells [(.pointer (some ⟨b32, 0, none⟩)), (.int .i64 r21), (.int .i64 r29)].toArray 151 (0, 0)), viewA (ptr b32) ws l119] := hs136.front 1 (by simp)
                  refine ops_call (pre := [blk b40 (.cells [(.pointer (some ⟨b32, 0, none⟩)), (.int .i64 r21), (.int .i64 r29)].toArray 151 (0, 0)), viewA (ptr b32) ws l119]) hs159 (by kernel_rfl) (mset_walk (hm := h158) B _) ?_
                  rintro _ _ w160 ⟨rfl, rfl⟩ hs161
                  have hs162 : St B w [] w160 [blk b40 (.cells [(.pointer (some ⟨b32, 0, none⟩)), (.int .i64 r21), (.int .i64 r29)].toArray 151 (0, 0)), viewA (ptr b32) ws r157.2] := hs161
                  refine ops_run 3 (by kernel_rfl) ?_
                  rcases Bool.eq_false_or_eq_true (!decide (r157.1 = 0)) with h163 | h163
                  rotate_left
                  ·
                    have h163p : r157.1 = 0 := of_decide_eq_true (bnot_false h163)
                    replace hm := ite_yes hm h163p
                    refine ops_set 104 (v := .bool false) (eq_bool_of (by kernel_rfl) h163) ?_
                    refine ops_set 102 (v := .bool false) (eq_bool_of (by kernel_rfl) h163) ?_
                    refine ops_set 103 (v := .bool false) (eq_bool_of (by kernel_rfl) h163) ?_
                    refine ops_run 4 (by kernel_rfl) ?_
                    refine ops_done (by kernel_rfl) ?_
                    refine hK141 _ _ ?_
                    clear hK141
                    refine W.cond (decide (p121 = r29)) (by kernel_rfl) (fun h164 => ?_) (fun h164 => ?_)
                    ·
                      have h164p : p121 = r29 := of_decide_eq_true h164
                      replace hm := ite_yes hm h164p
                      refine W.seq fun K165 hK165 => ?_
                      refine W.region ?_
                      refine ops_run 1 (by kernel_rfl) ?_
                      refine ops_done (by kernel_rfl) ?_
                      refine hK165 _ _ ?_
                      clear hK165
                      refine W.ret (ret_seq (ret_block (ret_seq (ret_seq (ret_block (ret_seq ?_))))))
                      have hs166 : St B w [] w160 [] := St.take (H := []) hs162
                      refine ret_of (.bool false) (by kernel_rfl) ⟨_, ⟨congrArg Value.bool (some_inj hm), rfl⟩, hs166⟩
                    ·
                      have h164p : ¬ (p121 = r29) := of_decide_eq_false h164
                      replace hm := ite_no hm h164p
                      refine W.skip ?_
                      refine hK140 _ _ ?_
                      clear hK140
                      refine W.seq fun K167 hK167 => ?_
                      refine W.seq fun K168 hK168 => ?_
                      refine W.region ?_
                      refine ops_run 1 (by kernel_rfl) ?_
                      obtain ⟨h169, hm⟩ := need_some hm
                      refine ops_val (v := .int .i64 (IntKind.i64.wrap (p120 + 1))) (v' := .int .i64 (p120 + 1)) (by kernel_rfl) (congrArg (Value.int .i64) (wrap_i64 h169.1 h169.2)) ?_
                      refine ops_run 1 (by kernel_rfl) ?_
                      refine ops_done (by kernel_rfl) ?_
                      refine hK168 _ _ ?_
                      clear hK168
                      refine W.block ?_
                      have hs175 : St B w [] w160 [viewA (ptr b32) ws r157.2, blk b40 (.cells [(.pointer (some ⟨b32, 0, none⟩)), (.int .i64 r21), (.int .i64 r29)].toArray 151 (0, 0))] := hs162.front 1 (by simp)
                      refine W.loop_iter (G := Int) (σ := Int) (fun | p170 => p170) (fun | p170, s_, w_ => (∃ us, s_ = slots 196 [(0, (.slice wa ws.length wc)), (7, (.int .i64 r21)), (8, (.int .i64 r29)), (9, (.pointer (some ⟨b32, 0, none⟩))), (10, (.pointer (some ⟨b40, 0, none⟩))), (13, (.int .i64 p121)), (14, (.int .i64 r132.1)), (16, (.int .i64 p170))] us) ∧ St B w [] w_ [viewA (ptr b32) ws r157.2, blk b40 (.cells [(.pointer (some ⟨b32, 0, none⟩)), (.int .i64 r21), (.int .i64 r29)].toArray 151 (0, 0))]) (p120 + 1) ⟨slots_intro _ (by kernel_rfl), hs175⟩ hm ?_
                      rintro k171 ih172 p170 _ w173 ⟨⟨us, rfl⟩, hs174⟩ hm
                      replace hm : bitmapfills_B1 ws r21 k122 p121 r132 r157 k171 p170 = some true := hm
                      unfold bitmapfills_B1 at hm
                      refine W.seq fun K176 hK176 => ?_
                      refine W.seq fun K177 hK177 => ?_
                      refine W.region ?_
                      refine ops_run 3 (by kernel_rfl) ?_
                      refine ops_done (by kernel_rfl) ?_
                      refine hK177 _ _ ?_
                      clear hK177
                      refine W.cond (decide (p170 < r132.1)) (by kernel_rfl) (fun h178 => ?_) (fun h178 => ?_)
                      ·
                        have h178p : p170 < r132.1 := of_decide_eq_true h178
                        replace hm := ite_yes hm h178p
                        refine W.skip ?_
                        refine hK176 _ _ ?_
                        clear hK176
                        refine W.seq fun K179 hK179 => ?_
                        refine W.block ?_
                        refine W.seq fun K180 hK180 => ?_
                        refine W.region ?_
                        refine ops_run 3 (by kernel_rfl) ?_
                        obtain ⟨h181, hm⟩ := need_some hm
                        refine ops_R (v := .int .i64 (p170.tdiv 64)) (runs_quo (k := .i64) (a := p170) (b := 64) (by kernel_rfl) (by decide) (wrap_i64 h181.1 h181.2)) ?_
                        obtain ⟨h182, hm⟩ := need_some hm
                        refine ops_val (v := .int .i64 (IntKind.i64.wrap (r21 + (p170.tdiv 64)))) (v' := .int .i64 (r21 + (p170.tdiv 64))) (by kernel_rfl) (congrArg (Value.int .i64) (wrap_i64 h182.1 h182.2)) ?_
                        obtain ⟨h184, hm⟩ := need_some hm
                        have hk183 := lt_toNat h184
                        refine ops_R (runs_index (a := wa) (n := ws.length) (z := (r21 + (p170.tdiv 64))) (size := 1) ((r21 + (p170.tdiv 64)).toNat) (nat_of h184.1) hk183 (kU64.addr (hs174.oldCells hw) hk183) (by kernel_rfl)) ?_
                        refine ops_R (runs_load (ad := ((adr wa (((r21 + (p170.tdiv 64)).toNat) * 1)).add 0)) (v := (.int .u64 (ws.getD ((r21 + (p170.tdiv 64)).toNat) 0))) (by kernel_rfl) (kU64.at (hs174.oldCells hw) hk183 0 0 rfl)) ?_
                        refine ops_run 2 (by kernel_rfl) ?_
                        obtain ⟨h185, hm⟩ := need_some hm
                        refine ops_val (v := .int .u64 (IntKind.u64.wrap (p170.tmod 64))) (v' := .int .u64 (p170.tmod 64)) (by kernel_rfl) (congrArg (Value.int .u64) (wrap_u64 h185.1 (Int.lt_of_le_of_lt h185.2 (by decide)))) ?_
                        obtain ⟨h186, hm⟩ := need_some hm
                        refine ops_R (v := .int .u64 (shrK .u64 (ws.getD ((r21 + (p170.tdiv 64)).toNat) 0) (p170.tmod 64))) (runs_shift (b := false) (k := .u64) (x := (ws.getD ((r21 + (p170.tdiv 64)).toNat) 0)) (y := p170.tmod 64) (by kernel_rfl) h186) ?_
                        refine ops_run 2 (by kernel_rfl) ?_
                        refine ops_done (by kernel_rfl) ?_
                        refine hK180 _ _ ?_
                        clear hK180
                        refine W.cond (decide ((shrK .u64 (ws.getD ((r21 + (p170.tdiv 64)).toNat) 0) (p170.tmod 64)).tmod 2 = 0)) (by kernel_rfl) (fun h187 => ?_) (fun h187 => ?_)
                        ·
                          have h187p : (shrK .u64 (ws.getD ((r21 + (p170.tdiv 64)).toNat) 0) (p170.tmod 64)).tmod 2 = 0 := of_decide_eq_true h187
                          replace hm := ite_yes hm h187p
                          refine W.seq fun K188 hK188 => ?_
                          refine W.region ?_
                          refine ops_run 1 (by kernel_rfl) ?_
                          refine ops_done (by kernel_rfl) ?_
                          refine hK188 _ _ ?_
                          clear hK188
                          refine W.ret (ret_block (ret_seq (ret_seq (ret_block (ret_seq (ret_block (ret_seq (ret_seq (ret_block (ret_seq ?_))))))))))
                          have hs189 : St B w [] w173 [] := St.take (H := []) hs174
                          refine ret_of (.bool false) (by kernel_rfl) ⟨_, ⟨congrArg Value.bool (some_inj hm), rfl⟩, hs189⟩
                        ·
                          have h187p : ¬ ((shrK .u64 (ws.getD ((r21 + (p170.tdiv 64)).toNat) 0) (p170.tmod 64)).tmod 2 = 0) := of_decide_eq_false h187
                          replace hm := ite_no hm h187p
                          refine W.skip ?_
                          refine normal_block ?_
                          refine hK179 _ _ ?_
                          clear hK179
                          refine W.region ?_
                          refine ops_run 1 (by kernel_rfl) ?_
                          obtain ⟨h190, hm⟩ := need_some hm
                          refine ops_val (v := .int .i64 (IntKind.i64.wrap (p170 + 1))) (v' := .int .i64 (p170 + 1)) (by kernel_rfl) (congrArg (Value.int .i64) (wrap_i64 h190.1 h190.2)) ?_
                          refine ops_run 1 (by kernel_rfl) ?_
                          refine ops_done (by kernel_rfl) ?_
                          refine loopAt_next ?_
                          exact ih172 (p170 + 1) _ _ ⟨slots_intro _ (by kernel_rfl), hs174⟩ hm
                      ·
                        have h178p : ¬ (p170 < r132.1) := of_decide_eq_false h178
                        replace hm := ite_no hm h178p
                        refine W.exit (exit_seq (exit_seq (exit_here ?_)))
                        refine hK167 _ _ ?_
                        clear hK167
                        refine W.region ?_
                        refine ops_run 2 (by kernel_rfl) ?_
                        refine ops_done (by kernel_rfl) ?_
                        refine normal_block ?_
                        refine hK130 _ _ ?_
                        clear hK130
                        refine W.region ?_
                        refine ops_run 1 (by kernel_rfl) ?_
                        obtain ⟨h191, hm⟩ := need_some hm
                        refine ops_val (v := .int .i64 (IntKind.i64.wrap (p121 + 1))) (v' := .int .i64 (p121 + 1)) (by kernel_rfl) (congrArg (Value.int .i64) (wrap_i64 h191.1 h191.2)) ?_
                        refine ops_run 1 (by kernel_rfl) ?_
                        refine ops_done (by kernel_rfl) ?_
                        refine loopAt_next ?_
                        exact ih123 (r157.2, r132.1, (p121 + 1)) _ _ ⟨slots_intro _ (by kernel_rfl), hs174⟩ hm
                  ·
                    have h163p : ¬ (r157.1 = 0) := of_decide_eq_false (bnot_true h163)
                    replace hm := ite_no hm h163p
                    refine ops_set 104 (v := .bool true) (eq_bool_of (by kernel_rfl) h163) ?_
                    refine ops_set 102 (v := .bool true) (eq_bool_of (by kernel_rfl) h163) ?_
                    refine ops_set 103 (v := .bool true) (eq_bool_of (by kernel_rfl) h163) ?_
                    refine ops_run 4 (by kernel_rfl) ?_
                    refine ops_done (by kernel_rfl) ?_
                    refine hK141 _ _ ?_
                    clear hK141
                    refine W.cond_true true (by kernel_rfl) rfl ?_
                    refine W.seq fun K192 hK192 => ?_
                    refine W.region ?_
                    refine ops_run 1 (by kernel_rfl) ?_
                    refine ops_done (by kernel_rfl) ?_
                    refine hK192 _ _ ?_
                    clear hK192
                    refine W.ret (ret_seq (ret_block (ret_seq (ret_seq (ret_block (ret_seq ?_))))))
                    have hs193 : St B w [] w160 [] := St.take (H := []) hs162
                    refine ret_of (.bool false) (by kernel_rfl) ⟨_, ⟨congrArg Value.bool (some_inj hm), rfl⟩, hs193⟩
          ·
            have h139p : ¬ (r132.2 = true) := ne_true_of_eq_false (bnot_true h139)
            replace hm := ite_no hm h139p
            refine W.exit (exit_seq (exit_block (by decide) (exit_seq (exit_seq (exit_here ?_)))))
            exact ⟨l119, slots_intro _ (by kernel_rfl), hs136, hm⟩
        ·
          have h129p : ¬ (p121 ≤ r29) := of_decide_eq_false h129
          replace hm := ite_no hm h129p
          refine W.exit (exit_seq (exit_seq (exit_here ?_)))
          exact ⟨l119, slots_intro _ (by kernel_rfl), hs125, hm⟩

end Go.Proofs.YthimamnblklkbaaDoor
