/- What the code computes, by a program. -/
import Derived.Test.YthimamnblklkbaaDoorGD
namespace Go.Proofs.YthimamnblklkbaaDoor
open Go Go.RowKit
set_option linter.unusedSimpArgs false
set_option linter.unusedVariables false

def bitmapone_J4 (ws : List Int) (r23 : Int) (r63 : Int × List (Int × Int)) (k102 : Int → Option (Bool)) (p101 : Int) (p123 : Bool) : Option (Bool) :=
  if (((shrK .u64 ((vflat ws r63.2).getD ((p101.tdiv 64).toNat) 0) (p101.tmod 64)).tmod 2 = 1) ↔ (p123 = true)) then ((mget_M ws r63.2 0 r23 p101).bind fun r128 =>
if (shrK .u64 ((vflat ws r63.2).getD ((p101.tdiv 64).toNat) 0) (p101.tmod 64)).tmod 2 = 1 then (if ((r128 = true) ↔ (p101 < r23)) then (need (-9223372036854775808 ≤ (p101 + 1) ∧ (p101 + 1) ≤ 9223372036854775807) <|
k102 (p101 + 1)) else (some false)) else (if ((r128 = true) ↔ False) then (need (-9223372036854775808 ≤ (p101 + 1) ∧ (p101 + 1) ≤ 9223372036854775807) <|
k102 (p101 + 1)) else (some false))) else (some false)

def bitmapone_B0 (ws : List Int) (i_ : Int) (r23 : Int) (r63 : Int × List (Int × Int)) (p77 : Bool) (k102 : Int → Option (Bool)) (p101 : Int) : Option (Bool) :=
  need (-9223372036854775808 ≤ (64 * (ws.length : Int)) ∧ (64 * (ws.length : Int)) ≤ 9223372036854775807) <|
if p101 < (64 * (ws.length : Int)) then (need (-9223372036854775808 ≤ (p101.tdiv 64) ∧ (p101.tdiv 64) ≤ 9223372036854775807) <|
need (0 ≤ (p101.tdiv 64) ∧ (p101.tdiv 64) < (((vflat ws r63.2).length) : Int)) <|
need (0 ≤ (p101.tmod 64) ∧ (p101.tmod 64) ≤ 18446744073709551615) <|
need (0 ≤ p101.tmod 64) <|
need (-9223372036854775808 ≤ (p101.tdiv 64) ∧ (p101.tdiv 64) ≤ 9223372036854775807) <|
need (0 ≤ (p101.tdiv 64) ∧ (p101.tdiv 64) < (ws.length : Int)) <|
need (0 ≤ (p101.tmod 64) ∧ (p101.tmod 64) ≤ 18446744073709551615) <|
need (0 ≤ p101.tmod 64) <|
if p101 = (i_.tmod r23) then (bitmapone_J4 ws r23 r63 k102 p101 p77) else (bitmapone_J4 ws r23 r63 k102 p101 (decide ((shrK .u64 (ws.getD ((p101.tdiv 64).toNat) 0) (p101.tmod 64)).tmod 2 = 1)))) else ((works06_M).bind fun r147 =>
some r147)

def bitmapone_J2 (ws : List Int) (i_ : Int) (r23 : Int) (r63 : Int × List (Int × Int)) (p77 : Bool) (p81 : Int) : Option (Bool) :=
  if (((vflat ws r63.2).length) : Int) = (ws.length : Int) then ((mcount_M ws r63.2 0 r23).bind fun r93 =>
if r93 = p81 then (iter (fun k_ s_ => bitmapone_B0 ws i_ r23 r63 p77 k_ s_) FUEL 0) else (some false)) else (some false)

def bitmapone_J5 (ws : List Int) (i_ : Int) (r23 : Int) (r63 : Int × List (Int × Int)) (p77 : Bool) (p78 : Int) (p157 : Bool) : Option (Bool) :=
  if p157 = true then (need (-9223372036854775808 ≤ (p78 - 1) ∧ (p78 - 1) ≤ 9223372036854775807) <|
bitmapone_J2 ws i_ r23 r63 p77 (p78 - 1)) else (bitmapone_J2 ws i_ r23 r63 p77 p78)

def bitmapone_J1 (ws : List Int) (i_ : Int) (r23 : Int) (r50 : Bool) (r63 : Int × List (Int × Int)) (p77 : Bool) (p78 : Int) : Option (Bool) :=
  if p77 = true then (bitmapone_J5 ws i_ r23 r63 p77 p78 false) else (bitmapone_J5 ws i_ r23 r63 p77 p78 r50)

def bitmapone_J6 (ws : List Int) (i_ : Int) (r23 : Int) (r44 : Int) (r50 : Bool) (r63 : Int × List (Int × Int)) (p163 : Bool) (p164 : Bool) : Option (Bool) :=
  if p164 = true then (need (-9223372036854775808 ≤ (r44 + 1) ∧ (r44 + 1) ≤ 9223372036854775807) <|
bitmapone_J1 ws i_ r23 r50 r63 p163 (r44 + 1)) else (bitmapone_J1 ws i_ r23 r50 r63 p163 r44)

def bitmapone_M (ws : List Int) (many : Int) (i_ : Int) (is_ : Bool) : Option (Bool) :=
  if (ws.length : Int) > 50 then ((works06_M).bind fun r6 =>
some r6) else (if (ws.length : Int) = 0 then ((works06_M).bind fun r13 =>
some r13) else (need (-9223372036854775808 ≤ many ∧ many ≤ 9223372036854775807) <|
need (-9223372036854775808 ≤ (64 * (ws.length : Int)) ∧ (64 * (ws.length : Int)) ≤ 9223372036854775807) <|
need (¬ ((64 * (ws.length : Int)) = 0)) <|
need (-9223372036854775808 ≤ (1 + (many.tmod (64 * (ws.length : Int)))) ∧ (1 + (many.tmod (64 * (ws.length : Int)))) ≤ 9223372036854775807) <|
(some (1 + (many.tmod (64 * (ws.length : Int))))).bind fun r23 =>
need (-9223372036854775808 ≤ i_ ∧ i_ ≤ 9223372036854775807) <|
need (¬ (r23 = 0)) <|
need (ws.length ≤ 17592186044415) <|
need ((ws.length : Int) ≤ 1000000000000) <|
need ((0 ≤ (0 : Int) ∧ (0 : Int) < (ws.length : Int)) ∧ (1 ≤ (r23 : Int) ∧ (r23 : Int) ≤ 1000000000000) ∧ ((r23 : Int) - 1) / 64 < (ws.length : Int) - (0 : Int)) <|
(mcount_M ws ([]) 0 r23).bind fun r44 =>
(mget_M ws ([]) 0 r23 (i_.tmod r23)).bind fun r50 =>
need (-9223372036854775808 ≤ ((i_.tmod r23).tdiv 64) ∧ ((i_.tmod r23).tdiv 64) ≤ 9223372036854775807) <|
need (0 ≤ ((i_.tmod r23).tdiv 64) ∧ ((i_.tmod r23).tdiv 64) < (ws.length : Int)) <|
need (0 ≤ ((i_.tmod r23).tmod 64) ∧ ((i_.tmod r23).tmod 64) ≤ 18446744073709551615) <|
need (0 ≤ (i_.tmod r23).tmod 64) <|
if ((r50 = true) ↔ ((shrK .u64 (ws.getD (((i_.tmod r23).tdiv 64).toNat) 0) ((i_.tmod r23).tmod 64)).tmod 2 = 1)) then ((mset_M ws ([]) 0 r23 (i_.tmod r23) is_).bind fun r63 =>
if r63.1 = 0 then ((mget_M ws r63.2 0 r23 (i_.tmod r23)).bind fun r71 =>
if ((r71 = true) ↔ (is_ = true)) then (if is_ = true then (bitmapone_J6 ws i_ r23 r44 r50 r63 true (!r50)) else (bitmapone_J6 ws i_ r23 r44 r50 r63 false false)) else (some false)) else (some false)) else (some false)))

set_option maxRecDepth 20000 in
set_option maxHeartbeats 4000000 in
set_option linter.unusedVariables false in
theorem bitmapone_walk {ws : List Int} {many : Int} {i_ : Int} {is_ : Bool} {wa : Option Addr} {wc : Nat}  (B : Nat) (w : World) (hB : w.heap.size = B) (hT : CellsAt (some ⟨0, 0, none⟩) tab8 w) (hw : CellsAt wa (kU64.cells ws) w) (hw0 : wa = none → wc = 0) (hm : bitmapone_M ws many i_ is_ = some true) : Spec Tryd.prog 6 #[(.slice wa ws.length wc), (.int .u16 many), (.int .u16 i_), (.bool is_)] B w [] (fun v H' => v = .bool true ∧ H' = []) := by
  refine spec_Q Tryd.func6 rfl fun hs => ?_
  unfold bitmapone_M at hm
  refine W.seq fun K1 hK1 => ?_
  refine W.region ?_
  refine ops_run 1 (by kernel_rfl) ?_
  refine ops_done (by kernel_rfl) ?_
  refine hK1 _ _ ?_
  clear hK1
  refine W.seq fun K2 hK2 => ?_
  refine W.seq fun K3 hK3 => ?_
  refine W.region ?_
  refine ops_run 4 (by kernel_rfl) ?_
  rcases Bool.eq_false_or_eq_true (decide ((ws.length : Int) > 50)) with h4 | h4
  ·
    have h4p : (ws.length : Int) > 50 := of_decide_eq_true h4
    replace hm := ite_yes hm h4p
    refine ops_set 23 (v := .bool true) (eq_bool_of (by kernel_rfl) h4) ?_
    refine ops_set 22 (v := .bool true) (eq_bool_of (by kernel_rfl) h4) ?_
    refine ops_run 4 (by kernel_rfl) ?_
    refine ops_done (by kernel_rfl) ?_
    refine hK3 _ _ ?_
    clear hK3
    refine W.cond_true true (by kernel_rfl) rfl ?_
    refine W.seq fun K5 hK5 => ?_
    refine W.region ?_
    obtain ⟨r6, h7, hm⟩ := bind_some hm
    refine ops_call (pre := []) hs (by kernel_rfl) (works06_walk (hT := (hs.oldCells hT)) (hm := h7) B _) ?_
    rintro _ _ w8 ⟨rfl, rfl⟩ hs9
    have hs10 : St B w [] w8 [] := hs9
    refine ops_run 1 (by kernel_rfl) ?_
    refine ops_done (by kernel_rfl) ?_
    refine hK5 _ _ ?_
    clear hK5
    refine W.ret (ret_seq ?_)
    refine ret_of (.bool r6) (by kernel_rfl) ⟨_, ⟨congrArg Value.bool (some_inj hm), rfl⟩, hs10⟩
  ·
    have h4p : ¬ ((ws.length : Int) > 50) := of_decide_eq_false h4
    replace hm := ite_no hm h4p
    refine ops_set 23 (v := .bool false) (eq_bool_of (by kernel_rfl) h4) ?_
    refine ops_set 22 (v := .bool false) (eq_bool_of (by kernel_rfl) h4) ?_
    refine ops_run 4 (by kernel_rfl) ?_
    refine ops_done (by kernel_rfl) ?_
    refine hK3 _ _ ?_
    clear hK3
    refine W.cond (decide ((ws.length : Int) = 0)) (by kernel_rfl) (fun h11 => ?_) (fun h11 => ?_)
    ·
      have h11p : (ws.length : Int) = 0 := of_decide_eq_true h11
      replace hm := ite_yes hm h11p
      refine W.seq fun K12 hK12 => ?_
      refine W.region ?_
      obtain ⟨r13, h14, hm⟩ := bind_some hm
      refine ops_call (pre := []) hs (by kernel_rfl) (works06_walk (hT := (hs.oldCells hT)) (hm := h14) B _) ?_
      rintro _ _ w15 ⟨rfl, rfl⟩ hs16
      have hs17 : St B w [] w15 [] := hs16
      refine ops_run 1 (by kernel_rfl) ?_
      refine ops_done (by kernel_rfl) ?_
      refine hK12 _ _ ?_
      clear hK12
      refine W.ret (ret_seq ?_)
      refine ret_of (.bool r13) (by kernel_rfl) ⟨_, ⟨congrArg Value.bool (some_inj hm), rfl⟩, hs17⟩
    ·
      have h11p : ¬ ((ws.length : Int) = 0) := of_decide_eq_false h11
      replace hm := ite_no hm h11p
      refine W.skip ?_
      refine hK2 _ _ ?_
      clear hK2
      refine W.seq fun K18 hK18 => ?_
      refine W.region ?_
      refine ops_run 1 (by kernel_rfl) ?_
      obtain ⟨h19, hm⟩ := need_some hm
      refine ops_val (v := .int .i64 (IntKind.i64.wrap many)) (v' := .int .i64 many) (by kernel_rfl) (congrArg (Value.int .i64) (wrap_i64 h19.1 h19.2)) ?_
      refine ops_run 2 (by kernel_rfl) ?_
      obtain ⟨h20, hm⟩ := need_some hm
      refine ops_val (v := .int .i64 (IntKind.i64.wrap (64 * (ws.length : Int)))) (v' := .int .i64 (64 * (ws.length : Int))) (by kernel_rfl) (congrArg (Value.int .i64) (wrap_i64 h20.1 h20.2)) ?_
      obtain ⟨h21, hm⟩ := need_some hm
      refine ops_R (v := .int .i64 (many.tmod (64 * (ws.length : Int)))) (runs_rem (k := .i64) (a := many) (b := (64 * (ws.length : Int))) (by kernel_rfl) h21 rfl) ?_
      obtain ⟨h22, hm⟩ := need_some hm
      refine ops_val (v := .int .i64 (IntKind.i64.wrap (1 + (many.tmod (64 * (ws.length : Int)))))) (v' := .int .i64 (1 + (many.tmod (64 * (ws.length : Int))))) (by kernel_rfl) (congrArg (Value.int .i64) (wrap_i64 h22.1 h22.2)) ?_
      refine ops_run 1 (by kernel_rfl) ?_
      obtain ⟨r23, h24, hm⟩ := bind_some hm
      replace h24 := some_inj h24
      refine ops_set 9 (v := .int .i64 r23) (Eq.trans (by kernel_rfl) (congrArg (Value.int .i64) h24)) ?_
      refine ops_done (by kernel_rfl) ?_
      refine hK18 _ _ ?_
      clear hK18
      refine W.seq fun K25 hK25 => ?_
      refine W.region ?_
      refine ops_run 1 (by kernel_rfl) ?_
      obtain ⟨h26, hm⟩ := need_some hm
      refine ops_val (v := .int .i64 (IntKind.i64.wrap i_)) (v' := .int .i64 i_) (by kernel_rfl) (congrArg (Value.int .i64) (wrap_i64 h26.1 h26.2)) ?_
      refine ops_run 1 (by kernel_rfl) ?_
      obtain ⟨h27, hm⟩ := need_some hm
      refine ops_R (v := .int .i64 (i_.tmod r23)) (runs_rem (k := .i64) (a := i_) (b := r23) (by kernel_rfl) h27 rfl) ?_
      refine ops_run 1 (by kernel_rfl) ?_
      refine ops_done (by kernel_rfl) ?_
      refine hK25 _ _ ?_
      clear hK25
      refine W.seq fun K28 hK28 => ?_
      refine W.region ?_
      refine ops_run 1 (by kernel_rfl) ?_
      obtain ⟨h30, hm⟩ := need_some hm
      refine ops_call (pre := []) hs (by kernel_rfl) (new_spec (hc := (hs.oldCells hw)) (hn := hw0) (hsz := h30) B _) ?_
      rintro _ _ w31 ⟨b29, rfl, rfl⟩ hs32
      have hs33 : St B w [] w31 [viewA (ptr b29) ws ([])] := hs32
      refine ops_run 1 (by kernel_rfl) ?_
      refine ops_done (by kernel_rfl) ?_
      refine hK28 _ _ ?_
      clear hK28
      refine W.seq fun K34 hK34 => ?_
      refine W.region ?_
      refine ops_run 2 (by kernel_rfl) ?_
      obtain ⟨h35, hm⟩ := need_some hm
      obtain ⟨h36, hm⟩ := need_some hm
      refine ops_call (pre := []) hs33 (by kernel_rfl) (of_ok (hv := (hs33.entAt 0 rfl viewA_at)) (hz := h35) (ho := h36) B _) ?_
      rintro _ _ w38 ⟨b37, rfl, rfl⟩ hs39
      have hs40 : St B w [] w38 [blk b37 (.cells [(.pointer (some ⟨b29, 0, none⟩)), (.int .i64 0), (.int .i64 r23)].toArray 151 (0, 0)), viewA (ptr b29) ws ([])] := hs39
      refine ops_run 5 (by kernel_rfl) ?_
      refine ops_done (by kernel_rfl) ?_
      refine hK34 _ _ ?_
      clear hK34
      refine W.seq fun K41 hK41 => ?_
      refine W.seq fun K42 hK42 => ?_
      refine W.region ?_
      refine ops_run 10 (by kernel_rfl) ?_
      refine ops_done (by kernel_rfl) ?_
      refine hK42 _ _ ?_
      clear hK42
      refine W.cond_false false (by kernel_rfl) rfl ?_
      refine W.skip ?_
      refine hK41 _ _ ?_
      clear hK41
      refine W.seq fun K43 hK43 => ?_
      refine W.region ?_
      refine ops_run 1 (by kernel_rfl) ?_
      obtain ⟨r44, h45, hm⟩ := bind_some hm
      refine ops_call (pre := []) hs40 (by kernel_rfl) (mcount_walk (hmb := (hs40.heapAt 0 rfl)) (hv := (hs40.entAt 1 rfl viewA_at)) (hm := h45) B _) ?_
      rintro _ _ w46 ⟨rfl, rfl⟩ hs47
      have hs48 : St B w [] w46 [blk b37 (.cells [(.pointer (some ⟨b29, 0, none⟩)), (.int .i64 0), (.int .i64 r23)].toArray 151 (0, 0)), viewA (ptr b29) ws ([])] := hs47
      refine ops_run 1 (by kernel_rfl) ?_
      refine ops_done (by kernel_rfl) ?_
      refine hK43 _ _ ?_
      clear hK43
      refine W.seq fun K49 hK49 => ?_
      refine W.region ?_
      refine ops_run 2 (by kernel_rfl) ?_
      obtain ⟨r50, h51, hm⟩ := bind_some hm
      refine ops_call (pre := []) hs48 (by kernel_rfl) (mget_walk (hmb := (hs48.heapAt 0 rfl)) (hv := (hs48.entAt 1 rfl viewA_at)) (hm := h51) B _) ?_
      rintro _ _ w52 ⟨rfl, rfl⟩ hs53
      have hs54 : St B w [] w52 [blk b37 (.cells [(.pointer (some ⟨b29, 0, none⟩)), (.int .i64 0), (.int .i64 r23)].toArray 151 (0, 0)), viewA (ptr b29) ws ([])] := hs53
      refine ops_run 1 (by kernel_rfl) ?_
      refine ops_done (by kernel_rfl) ?_
      refine hK49 _ _ ?_
      clear hK49
      refine W.seq fun K55 hK55 => ?_
      refine W.seq fun K56 hK56 => ?_
      refine W.region ?_
      refine ops_run 3 (by kernel_rfl) ?_
      obtain ⟨h57, hm⟩ := need_some hm
      refine ops_R (v := .int .i64 ((i_.tmod r23).tdiv 64)) (runs_quo (k := .i64) (a := (i_.tmod r23)) (b := 64) (by kernel_rfl) (by decide) (wrap_i64 h57.1 h57.2)) ?_
      obtain ⟨h59, hm⟩ := need_some hm
      have hk58 := lt_toNat h59
      refine ops_R (runs_index (a := wa) (n := ws.length) (z := ((i_.tmod r23).tdiv 64)) (size := 1) (((i_.tmod r23).tdiv 64).toNat) (nat_of h59.1) hk58 (kU64.addr (hs54.oldCells hw) hk58) (by kernel_rfl)) ?_
      refine ops_R (runs_load (ad := ((adr wa ((((i_.tmod r23).tdiv 64).toNat) * 1)).add 0)) (v := (.int .u64 (ws.getD (((i_.tmod r23).tdiv 64).toNat) 0))) (by kernel_rfl) (kU64.at (hs54.oldCells hw) hk58 0 0 rfl)) ?_
      refine ops_run 2 (by kernel_rfl) ?_
      obtain ⟨h60, hm⟩ := need_some hm
      refine ops_val (v := .int .u64 (IntKind.u64.wrap ((i_.tmod r23).tmod 64))) (v' := .int .u64 ((i_.tmod r23).tmod 64)) (by kernel_rfl) (congrArg (Value.int .u64) (wrap_u64 h60.1 (Int.lt_of_le_of_lt h60.2 (by decide)))) ?_
      obtain ⟨h61, hm⟩ := need_some hm
      refine ops_R (v := .int .u64 (shrK .u64 (ws.getD (((i_.tmod r23).tdiv 64).toNat) 0) ((i_.tmod r23).tmod 64))) (runs_shift (b := false) (k := .u64) (x := (ws.getD (((i_.tmod r23).tdiv 64).toNat) 0)) (y := (i_.tmod r23).tmod 64) (by kernel_rfl) h61) ?_
      refine ops_run 4 (by kernel_rfl) ?_
      rcases Bool.eq_false_or_eq_true (!(r50 == (decide ((shrK .u64 (ws.getD (((i_.tmod r23).tdiv 64).toNat) 0) ((i_.tmod r23).tmod 64)).tmod 2 = 1)))) with h62 | h62
      rotate_left
      ·
        have h62p : ((r50 = true) ↔ ((shrK .u64 (ws.getD (((i_.tmod r23).tdiv 64).toNat) 0) ((i_.tmod r23).tmod 64)).tmod 2 = 1)) := beq_yes Iff.rfl decide_eq_true_iff (bnot_false h62)
        replace hm := ite_yes hm h62p
        refine ops_set 76 (v := .bool false) (eq_bool_of (by kernel_rfl) h62) ?_
        refine ops_set 75 (v := .bool false) (eq_bool_of (by kernel_rfl) h62) ?_
        refine ops_run 3 (by kernel_rfl) ?_
        obtain ⟨r63, h64, hm⟩ := bind_some hm
        have hs65 : St B w [] w52 [viewA (ptr b29) ws ([]), blk b37 (.cells [(.pointer (some ⟨b29, 0, none⟩)), (.int .i64 0), (.int .i64 r23)].toArray 151 (0, 0))] := hs54.front 1 (by simp)
        have hs66 : St B w [] w52 [blk b37 (.cells [(.pointer (some ⟨b29, 0, none⟩)), (.int .i64 0), (.int .i64 r23)].toArray 151 (0, 0)), viewA (ptr b29) ws ([])] := hs65.front 1 (by simp)
        refine ops_call (pre := [blk b37 (.cells [(.pointer (some ⟨b29, 0, none⟩)), (.int .i64 0), (.int .i64 r23)].toArray 151 (0, 0)), viewA (ptr b29) ws ([])]) hs66 (by kernel_rfl) (mset_walk (hm := h64) B _) ?_
        rintro _ _ w67 ⟨rfl, rfl⟩ hs68
        have hs69 : St B w [] w67 [blk b37 (.cells [(.pointer (some ⟨b29, 0, none⟩)), (.int .i64 0), (.int .i64 r23)].toArray 151 (0, 0)), viewA (ptr b29) ws r63.2] := hs68
        refine ops_run 3 (by kernel_rfl) ?_
        rcases Bool.eq_false_or_eq_true (!decide (r63.1 = 0)) with h70 | h70
        rotate_left
        ·
          have h70p : r63.1 = 0 := of_decide_eq_true (bnot_false h70)
          replace hm := ite_yes hm h70p
          refine ops_set 83 (v := .bool false) (eq_bool_of (by kernel_rfl) h70) ?_
          refine ops_set 81 (v := .bool false) (eq_bool_of (by kernel_rfl) h70) ?_
          refine ops_set 82 (v := .bool false) (eq_bool_of (by kernel_rfl) h70) ?_
          refine ops_run 2 (by kernel_rfl) ?_
          obtain ⟨r71, h72, hm⟩ := bind_some hm
          refine ops_call (pre := []) hs69 (by kernel_rfl) (mget_walk (hmb := (hs69.heapAt 0 rfl)) (hv := (hs69.entAt 1 rfl viewA_at)) (hm := h72) B _) ?_
          rintro _ _ w73 ⟨rfl, rfl⟩ hs74
          have hs75 : St B w [] w73 [blk b37 (.cells [(.pointer (some ⟨b29, 0, none⟩)), (.int .i64 0), (.int .i64 r23)].toArray 151 (0, 0)), viewA (ptr b29) ws r63.2] := hs74
          refine ops_run 3 (by kernel_rfl) ?_
          refine ops_done (by kernel_rfl) ?_
          refine hK56 _ _ ?_
          clear hK56
          refine W.cond (!(r71 == is_)) (by kernel_rfl) (fun h76 => ?_) (fun h76 => ?_)
          rotate_left
          ·
            have h76p : ((r71 = true) ↔ (is_ = true)) := beq_yes Iff.rfl Iff.rfl (bnot_false h76)
            replace hm := ite_yes hm h76p
            refine W.skip ?_
            refine hK55 _ _ ?_
            clear hK55
            refine W.seq_join (fun s_ w_ => ∃ (p77 : Bool) (p78 : Int), (∃ us, s_ = slots 166 [(0, (.slice wa ws.length wc)), (3, (.bool p77)), (9, (.int .i64 r23)), (10, (.int .i64 (i_.tmod r23))), (11, (.pointer (some ⟨b29, 0, none⟩))), (12, (.pointer (some ⟨b37, 0, none⟩))), (14, (.int .i64 p78)), (15, (.bool r50))] us) ∧ St B w [] w_ [viewA (ptr b29) ws r63.2, blk b37 (.cells [(.pointer (some ⟨b29, 0, none⟩)), (.int .i64 0), (.int .i64 r23)].toArray 151 (0, 0))] ∧ bitmapone_J1 ws i_ r23 r50 r63 p77 p78 = some true) ?_ ?_
            ·
              rintro _ w79 ⟨p77, p78, ⟨us, rfl⟩, hs80, hm⟩
              unfold bitmapone_J1 at hm
              refine W.seq_join (fun s_ w_ => ∃ (p81 : Int), (∃ us, s_ = slots 166 [(0, (.slice wa ws.length wc)), (3, (.bool p77)), (9, (.int .i64 r23)), (10, (.int .i64 (i_.tmod r23))), (11, (.pointer (some ⟨b29, 0, none⟩))), (12, (.pointer (some ⟨b37, 0, none⟩))), (14, (.int .i64 p81))] us) ∧ St B w [] w_ [viewA (ptr b29) ws r63.2, blk b37 (.cells [(.pointer (some ⟨b29, 0, none⟩)), (.int .i64 0), (.int .i64 r23)].toArray 151 (0, 0))] ∧ bitmapone_J2 ws i_ r23 r63 p77 p81 = some true) ?_ ?_
              ·
                rintro _ w82 ⟨p81, ⟨us, rfl⟩, hs83, hm⟩
                unfold bitmapone_J2 at hm
                refine W.seq fun K84 hK84 => ?_
                refine W.region ?_
                refine ops_run 1 (by kernel_rfl) ?_
                refine ops_call (pre := []) hs83 (by kernel_rfl) (flat_spec (hv := (hs83.entAt 0 rfl viewA_at)) B _) ?_
                rintro _ _ w87 ⟨a85, c86, rfl, rfl⟩ hs88
                have hs89 : St B w [] w87 [kU64.row a85 c86 (vflat ws r63.2), viewA (ptr b29) ws r63.2, blk b37 (.cells [(.pointer (some ⟨b29, 0, none⟩)), (.int .i64 0), (.int .i64 r23)].toArray 151 (0, 0))] := hs88
                refine ops_run 1 (by kernel_rfl) ?_
                refine ops_done (by kernel_rfl) ?_
                refine hK84 _ _ ?_
                clear hK84
                refine W.seq fun K90 hK90 => ?_
                refine W.seq fun K91 hK91 => ?_
                refine W.region ?_
                refine ops_run 6 (by kernel_rfl) ?_
                rcases Bool.eq_false_or_eq_true (!decide ((((vflat ws r63.2).length) : Int) = (ws.length : Int))) with h92 | h92
                rotate_left
                ·
                  have h92p : (((vflat ws r63.2).length) : Int) = (ws.length : Int) := of_decide_eq_true (bnot_false h92)
                  replace hm := ite_yes hm h92p
                  refine ops_set 111 (v := .bool false) (eq_bool_of (by kernel_rfl) h92) ?_
                  refine ops_set 110 (v := .bool false) (eq_bool_of (by kernel_rfl) h92) ?_
                  refine ops_run 1 (by kernel_rfl) ?_
                  obtain ⟨r93, h94, hm⟩ := bind_some hm
                  refine ops_call (pre := []) hs89 (by kernel_rfl) (mcount_walk (hmb := (hs89.heapAt 2 rfl)) (hv := (hs89.entAt 1 rfl viewA_at)) (hm := h94) B _) ?_
                  rintro _ _ w95 ⟨rfl, rfl⟩ hs96
                  have hs97 : St B w [] w95 [kU64.row a85 c86 (vflat ws r63.2), viewA (ptr b29) ws r63.2, blk b37 (.cells [(.pointer (some ⟨b29, 0, none⟩)), (.int .i64 0), (.int .i64 r23)].toArray 151 (0, 0))] := hs96
                  refine ops_run 3 (by kernel_rfl) ?_
                  refine ops_done (by kernel_rfl) ?_
                  refine hK91 _ _ ?_
                  clear hK91
                  refine W.cond (!decide (r93 = p81)) (by kernel_rfl) (fun h98 => ?_) (fun h98 => ?_)
                  rotate_left
                  ·
                    have h98p : r93 = p81 := of_decide_eq_true (bnot_false h98)
                    replace hm := ite_yes hm h98p
                    refine W.skip ?_
                    refine hK90 _ _ ?_
                    clear hK90
                    refine W.seq fun K99 hK99 => ?_
                    refine W.seq fun K100 hK100 => ?_
                    refine W.region ?_
                    refine ops_run 1 (by kernel_rfl) ?_
                    refine ops_done (by kernel_rfl) ?_
                    refine hK100 _ _ ?_
                    clear hK100
                    refine W.block ?_
                    refine W.loop_iter (G := Int) (σ := Int) (fun | p101 => p101) (fun | p101, s_, w_ => (∃ us, s_ = slots 166 [(0, (.slice wa ws.length wc)), (3, (.bool p77)), (9, (.int .i64 r23)), (10, (.int .i64 (i_.tmod r23))), (12, (.pointer (some ⟨b37, 0, none⟩))), (16, (.slice a85 ((vflat ws r63.2).length) c86)), (17, (.int .i64 p101))] us) ∧ St B w [] w_ [kU64.row a85 c86 (vflat ws r63.2), viewA (ptr b29) ws r63.2, blk b37 (.cells [(.pointer (some ⟨b29, 0, none⟩)), (.int .i64 0), (.int .i64 r23)].toArray 151 (0, 0))]) 0 ⟨slots_intro _ (by kernel_rfl), hs97⟩ hm ?_
                    rintro k102 ih103 p101 _ w104 ⟨⟨us, rfl⟩, hs105⟩ hm
                    replace hm : bitmapone_B0 ws i_ r23 r63 p77 k102 p101 = some true := hm
                    unfold bitmapone_B0 at hm
                    refine W.seq fun K106 hK106 => ?_
                    refine W.seq fun K107 hK107 => ?_
                    refine W.region ?_
                    refine ops_run 3 (by kernel_rfl) ?_
                    obtain ⟨h108, hm⟩ := need_some hm
                    refine ops_val (v := .int .i64 (IntKind.i64.wrap (64 * (ws.length : Int)))) (v' := .int .i64 (64 * (ws.length : Int))) (by kernel_rfl) (congrArg (Value.int .i64) (wrap_i64 h108.1 h108.2)) ?_
                    refine ops_run 1 (by kernel_rfl) ?_
                    refine ops_done (by kernel_rfl) ?_
                    refine hK107 _ _ ?_
                    clear hK107
                    refine W.cond (decide (p101 < (64 * (ws.length : Int)))) (by kernel_rfl) (fun h109 => ?_) (fun h109 => ?_)
                    ·
                      have h109p : p101 < (64 * (ws.length : Int)) := of_decide_eq_true h109
                      replace hm := ite_yes hm h109p
                      refine W.skip ?_
                      refine hK106 _ _ ?_
                      clear hK106
                      refine W.seq fun K110 hK110 => ?_
                      refine W.block ?_
                      refine W.seq fun K111 hK111 => ?_
                      refine W.region ?_
                      refine ops_run 2 (by kernel_rfl) ?_
                      obtain ⟨h112, hm⟩ := need_some hm
                      refine ops_R (v := .int .i64 (p101.tdiv 64)) (runs_quo (k := .i64) (a := p101) (b := 64) (by kernel_rfl) (by decide) (wrap_i64 h112.1 h112.2)) ?_
                      obtain ⟨h114, hm⟩ := need_some hm
                      have hk113 := lt_toNat h114
                      refine ops_R (runs_index (a := a85) (n := (vflat ws r63.2).length) (z := (p101.tdiv 64)) (size := 1) ((p101.tdiv 64).toNat) (nat_of h114.1) hk113 (kU64.addr (St.kcells kU64 hs105 0 rfl) hk113) (by kernel_rfl)) ?_
                      refine ops_R (runs_load (ad := ((adr a85 (((p101.tdiv 64).toNat) * 1)).add 0)) (v := (.int .u64 ((vflat ws r63.2).getD ((p101.tdiv 64).toNat) 0))) (by kernel_rfl) (kU64.at (St.kcells kU64 hs105 0 rfl) hk113 0 0 rfl)) ?_
                      refine ops_run 2 (by kernel_rfl) ?_
                      obtain ⟨h115, hm⟩ := need_some hm
                      refine ops_val (v := .int .u64 (IntKind.u64.wrap (p101.tmod 64))) (v' := .int .u64 (p101.tmod 64)) (by kernel_rfl) (congrArg (Value.int .u64) (wrap_u64 h115.1 (Int.lt_of_le_of_lt h115.2 (by decide)))) ?_
                      obtain ⟨h116, hm⟩ := need_some hm
                      refine ops_R (v := .int .u64 (shrK .u64 ((vflat ws r63.2).getD ((p101.tdiv 64).toNat) 0) (p101.tmod 64))) (runs_shift (b := false) (k := .u64) (x := ((vflat ws r63.2).getD ((p101.tdiv 64).toNat) 0)) (y := p101.tmod 64) (by kernel_rfl) h116) ?_
                      refine ops_run 3 (by kernel_rfl) ?_
                      refine ops_done (by kernel_rfl) ?_
                      refine hK111 _ _ ?_
                      clear hK111
                      refine W.seq fun K117 hK117 => ?_
                      refine W.region ?_
                      refine ops_run 2 (by kernel_rfl) ?_
                      obtain ⟨h118, hm⟩ := need_some hm
                      refine ops_R (v := .int .i64 (p101.tdiv 64)) (runs_quo (k := .i64) (a := p101) (b := 64) (by kernel_rfl) (by decide) (wrap_i64 h118.1 h118.2)) ?_
                      obtain ⟨h120, hm⟩ := need_some hm
                      have hk119 := lt_toNat h120
                      refine ops_R (runs_index (a := wa) (n := ws.length) (z := (p101.tdiv 64)) (size := 1) ((p101.tdiv 64).toNat) (nat_of h120.1) hk119 (kU64.addr (hs105.oldCells hw) hk119) (by kernel_rfl)) ?_
                      refine ops_R (runs_load (ad := ((adr wa (((p101.tdiv 64).toNat) * 1)).add 0)) (v := (.int .u64 (ws.getD ((p101.tdiv 64).toNat) 0))) (by kernel_rfl) (kU64.at (hs105.oldCells hw) hk119 0 0 rfl)) ?_
                      refine ops_run 2 (by kernel_rfl) ?_
                      obtain ⟨h121, hm⟩ := need_some hm
                      refine ops_val (v := .int .u64 (IntKind.u64.wrap (p101.tmod 64))) (v' := .int .u64 (p101.tmod 64)) (by kernel_rfl) (congrArg (Value.int .u64) (wrap_u64 h121.1 (Int.lt_of_le_of_lt h121.2 (by decide)))) ?_
                      obtain ⟨h122, hm⟩ := need_some hm
                      refine ops_R (v := .int .u64 (shrK .u64 (ws.getD ((p101.tdiv 64).toNat) 0) (p101.tmod 64))) (runs_shift (b := false) (k := .u64) (x := (ws.getD ((p101.tdiv 64).toNat) 0)) (y := p101.tmod 64) (by kernel_rfl) h122) ?_
                      refine ops_run 3 (by kernel_rfl) ?_
                      refine ops_done (by kernel_rfl) ?_
                      refine hK117 _ _ ?_
                      clear hK117
                      refine W.seq_join (fun s_ w_ => ∃ (p123 : Bool), (∃ us, s_ = slots 166 [(0, (.slice wa ws.length wc)), (3, (.bool p77)), (9, (.int .i64 r23)), (10, (.int .i64 (i_.tmod r23))), (12, (.pointer (some ⟨b37, 0, none⟩))), (16, (.slice a85 ((vflat ws r63.2).length) c86)), (17, (.int .i64 p101)), (18, (.bool (decide ((shrK .u64 ((vflat ws r63.2).getD ((p101.tdiv 64).toNat) 0) (p101.tmod 64)).tmod 2 = 1)))), (19, (.bool p123))] us) ∧ St B w [] w_ [kU64.row a85 c86 (vflat ws r63.2), viewA (ptr b29) ws r63.2, blk b37 (.cells [(.pointer (some ⟨b29, 0, none⟩)), (.int .i64 0), (.int .i64 r23)].toArray 151 (0, 0))] ∧ bitmapone_J4 ws r23 r63 k102 p101 p123 = some true) ?_ ?_
                      ·
                        rintro _ w124 ⟨p123, ⟨us, rfl⟩, hs125, hm⟩
                        unfold bitmapone_J4 at hm
                        refine W.seq fun K126 hK126 => ?_
                        refine W.region ?_
                        refine ops_run 4 (by kernel_rfl) ?_
                        rcases Bool.eq_false_or_eq_true (!((decide ((shrK .u64 ((vflat ws r63.2).getD ((p101.tdiv 64).toNat) 0) (p101.tmod 64)).tmod 2 = 1)) == p123)) with h127 | h127
                        rotate_left
                        ·
                          have h127p : (((shrK .u64 ((vflat ws r63.2).getD ((p101.tdiv 64).toNat) 0) (p101.tmod 64)).tmod 2 = 1) ↔ (p123 = true)) := beq_yes decide_eq_true_iff Iff.rfl (bnot_false h127)
                          replace hm := ite_yes hm h127p
                          refine ops_set 153 (v := .bool false) (eq_bool_of (by kernel_rfl) h127) ?_
                          refine ops_set 152 (v := .bool false) (eq_bool_of (by kernel_rfl) h127) ?_
                          refine ops_run 2 (by kernel_rfl) ?_
                          obtain ⟨r128, h129, hm⟩ := bind_some hm
                          refine ops_call (pre := []) hs125 (by kernel_rfl) (mget_walk (hmb := (hs125.heapAt 2 rfl)) (hv := (hs125.entAt 1 rfl viewA_at)) (hm := h129) B _) ?_
                          rintro _ _ w130 ⟨rfl, rfl⟩ hs131
                          have hs132 : St B w [] w130 [kU64.row a85 c86 (vflat ws r63.2), viewA (ptr b29) ws r63.2, blk b37 (.cells [(.pointer (some ⟨b29, 0, none⟩)), (.int .i64 0), (.int .i64 r23)].toArray 151 (0, 0))] := hs131
                          refine ops_run 2 (by kernel_rfl) ?_
                          rcases Bool.eq_false_or_eq_true (decide ((shrK .u64 ((vflat ws r63.2).getD ((p101.tdiv 64).toNat) 0) (p101.tmod 64)).tmod 2 = 1)) with h133 | h133
                          ·
                            have h133p : (shrK .u64 ((vflat ws r63.2).getD ((p101.tdiv 64).toNat) 0) (p101.tmod 64)).tmod 2 = 1 := of_decide_eq_true h133
                            replace hm := ite_yes hm h133p
                            refine ops_set 158 (v := .bool true) (eq_bool_of (by kernel_rfl) h133) ?_
                            refine ops_set 18 (v := .bool true) (eq_bool_of (by kernel_rfl) h133) ?_
                            refine ops_set 150 (v := .bool true) (eq_bool_of (by kernel_rfl) h133) ?_
                            refine ops_set 157 (v := .bool true) (eq_bool_of (by kernel_rfl) h133) ?_
                            refine ops_run 6 (by kernel_rfl) ?_
                            refine ops_done (by kernel_rfl) ?_
                            refine hK126 _ _ ?_
                            clear hK126
                            refine W.cond (!(r128 == (decide (p101 < r23)))) (by kernel_rfl) (fun h134 => ?_) (fun h134 => ?_)
                            rotate_left
                            ·
                              have h134p : ((r128 = true) ↔ (p101 < r23)) := beq_yes Iff.rfl decide_eq_true_iff (bnot_false h134)
                              replace hm := ite_yes hm h134p
                              refine W.skip ?_
                              refine normal_block ?_
                              refine hK110 _ _ ?_
                              clear hK110
                              refine W.region ?_
                              refine ops_run 1 (by kernel_rfl) ?_
                              obtain ⟨h135, hm⟩ := need_some hm
                              refine ops_val (v := .int .i64 (IntKind.i64.wrap (p101 + 1))) (v' := .int .i64 (p101 + 1)) (by kernel_rfl) (congrArg (Value.int .i64) (wrap_i64 h135.1 h135.2)) ?_
                              refine ops_run 1 (by kernel_rfl) ?_
                              refine ops_done (by kernel_rfl) ?_
                              refine loopAt_next ?_
                              exact ih103 (p101 + 1) _ _ ⟨slots_intro _ (by kernel_rfl), hs132⟩ hm
                            ·
                              have h134p : ¬ ((r128 = true) ↔ (p101 < r23)) := beq_no Iff.rfl decide_eq_true_iff (bnot_true h134)
                              replace hm := ite_no hm h134p
                              refine W.seq fun K136 hK136 => ?_
                              refine W.region ?_
                              refine ops_run 1 (by kernel_rfl) ?_
                              refine ops_done (by kernel_rfl) ?_
                              refine hK136 _ _ ?_
                              clear hK136
                              refine W.ret (ret_block (ret_seq (ret_seq (ret_block (ret_seq ?_)))))
                              have hs137 : St B w [] w130 [] := St.take (H := []) hs132
                              refine ret_of (.bool false) (by kernel_rfl) ⟨_, ⟨congrArg Value.bool (some_inj hm), rfl⟩, hs137⟩
                          ·
                            have h133p : ¬ ((shrK .u64 ((vflat ws r63.2).getD ((p101.tdiv 64).toNat) 0) (p101.tmod 64)).tmod 2 = 1) := of_decide_eq_false h133
                            replace hm := ite_no hm h133p
                            refine ops_set 158 (v := .bool false) (eq_bool_of (by kernel_rfl) h133) ?_
                            refine ops_set 18 (v := .bool false) (eq_bool_of (by kernel_rfl) h133) ?_
                            refine ops_set 150 (v := .bool false) (eq_bool_of (by kernel_rfl) h133) ?_
                            refine ops_set 157 (v := .bool false) (eq_bool_of (by kernel_rfl) h133) ?_
                            refine ops_run 6 (by kernel_rfl) ?_
                            refine ops_done (by kernel_rfl) ?_
                            refine hK126 _ _ ?_
                            clear hK126
                            refine W.cond (!(r128 == false)) (by kernel_rfl) (fun h138 => ?_) (fun h138 => ?_)
                            rotate_left
                            ·
                              have h138p : ((r128 = true) ↔ False) := beq_yes Iff.rfl ff_iff (bnot_false h138)
                              replace hm := ite_yes hm h138p
                              refine W.skip ?_
                              refine normal_block ?_
                              refine hK110 _ _ ?_
                              clear hK110
                              refine W.region ?_
                              refine ops_run 1 (by kernel_rfl) ?_
                              obtain ⟨h139, hm⟩ := need_some hm
                              refine ops_val (v := .int .i64 (IntKind.i64.wrap (p101 + 1))) (v' := .int .i64 (p101 + 1)) (by kernel_rfl) (congrArg (Value.int .i64) (wrap_i64 h139.1 h139.2)) ?_
                              refine ops_run 1 (by kernel_rfl) ?_
                              refine ops_done (by kernel_rfl) ?_
                              refine loopAt_next ?_
                              exact ih103 (p101 + 1) _ _ ⟨slots_intro _ (by kernel_rfl), hs132⟩ hm
                            ·
                              have h138p : ¬ ((r128 = true) ↔ False) := beq_no Iff.rfl ff_iff (bnot_true h138)
                              replace hm := ite_no hm h138p
                              refine W.seq fun K140 hK140 => ?_
                              refine W.region ?_
                              refine ops_run 1 (by kernel_rfl) ?_
                              refine ops_done (by kernel_rfl) ?_
                              refine hK140 _ _ ?_
                              clear hK140
                              refine W.ret (ret_block (ret_seq (ret_seq (ret_block (ret_seq ?_)))))
                              have hs141 : St B w [] w130 [] := St.take (H := []) hs132
                              refine ret_of (.bool false) (by kernel_rfl) ⟨_, ⟨congrArg Value.bool (some_inj hm), rfl⟩, hs141⟩
                        ·
                          have h127p : ¬ (((shrK .u64 ((vflat ws r63.2).getD ((p101.tdiv 64).toNat) 0) (p101.tmod 64)).tmod 2 = 1) ↔ (p123 = true)) := beq_no decide_eq_true_iff Iff.rfl (bnot_true h127)
                          replace hm := ite_no hm h127p
                          refine ops_set 153 (v := .bool true) (eq_bool_of (by kernel_rfl) h127) ?_
                          refine ops_set 152 (v := .bool true) (eq_bool_of (by kernel_rfl) h127) ?_
                          refine ops_run 11 (by kernel_rfl) ?_
                          refine ops_done (by kernel_rfl) ?_
                          refine hK126 _ _ ?_
                          clear hK126
                          refine W.cond_true true (by kernel_rfl) rfl ?_
                          refine W.seq fun K142 hK142 => ?_
                          refine W.region ?_
                          refine ops_run 1 (by kernel_rfl) ?_
                          refine ops_done (by kernel_rfl) ?_
                          refine hK142 _ _ ?_
                          clear hK142
                          refine W.ret (ret_block (ret_seq (ret_seq (ret_block (ret_seq ?_)))))
                          have hs143 : St B w [] w124 [] := St.take (H := []) hs125
                          refine ret_of (.bool false) (by kernel_rfl) ⟨_, ⟨congrArg Value.bool (some_inj hm), rfl⟩, hs143⟩
                      ·
                        refine W.seq fun K144 hK144 => ?_
                        refine W.region ?_
                        refine ops_run 3 (by kernel_rfl) ?_
                        refine ops_done (by kernel_rfl) ?_
                        refine hK144 _ _ ?_
                        clear hK144
                        refine W.cond (decide (p101 = (i_.tmod r23))) (by kernel_rfl) (fun h145 => ?_) (fun h145 => ?_)
                        ·
                          have h145p : p101 = (i_.tmod r23) := of_decide_eq_true h145
                          replace hm := ite_yes hm h145p
                          refine W.region ?_
                          refine ops_run 2 (by kernel_rfl) ?_
                          refine ops_done (by kernel_rfl) ?_
                          exact ⟨p77, slots_intro _ (by kernel_rfl), hs105, hm⟩
                        ·
                          have h145p : ¬ (p101 = (i_.tmod r23)) := of_decide_eq_false h145
                          replace hm := ite_no hm h145p
                          refine W.skip ?_
                          exact ⟨(decide ((shrK .u64 (ws.getD ((p101.tdiv 64).toNat) 0) (p101.tmod 64)).tmod 2 = 1)), slots_intro _ (by kernel_rfl), hs105, hm⟩
                    ·
                      have h109p : ¬ (p101 < (64 * (ws.length : Int))) := of_decide_eq_false h109
                      replace hm := ite_no hm h109p
                      refine W.exit (exit_seq (exit_seq (exit_here ?_)))
                      refine hK99 _ _ ?_
                      clear hK99
                      refine W.seq fun K146 hK146 => ?_
                      refine W.region ?_
                      obtain ⟨r147, h148, hm⟩ := bind_some hm
                      refine ops_call (pre := []) hs105 (by kernel_rfl) (works06_walk (hT := (hs105.oldCells hT)) (hm := h148) B _) ?_
                      rintro _ _ w149 ⟨rfl, rfl⟩ hs150
                      have hs151 : St B w [] w149 [kU64.row a85 c86 (vflat ws r63.2), viewA (ptr b29) ws r63.2, blk b37 (.cells [(.pointer (some ⟨b29, 0, none⟩)), (.int .i64 0), (.int .i64 r23)].toArray 151 (0, 0))] := hs150
                      refine ops_run 1 (by kernel_rfl) ?_
                      refine ops_done (by kernel_rfl) ?_
                      refine hK146 _ _ ?_
                      clear hK146
                      refine W.ret ?_
                      have hs152 : St B w [] w149 [] := St.take (H := []) hs151
                      refine ret_of (.bool r147) (by kernel_rfl) ⟨_, ⟨congrArg Value.bool (some_inj hm), rfl⟩, hs152⟩
                  ·
                    have h98p : ¬ (r93 = p81) := of_decide_eq_false (bnot_true h98)
                    replace hm := ite_no hm h98p
                    refine W.seq fun K153 hK153 => ?_
                    refine W.region ?_
                    refine ops_run 1 (by kernel_rfl) ?_
                    refine ops_done (by kernel_rfl) ?_
                    refine hK153 _ _ ?_
                    clear hK153
                    refine W.ret (ret_seq ?_)
                    have hs154 : St B w [] w95 [] := St.take (H := []) hs97
                    refine ret_of (.bool false) (by kernel_rfl) ⟨_, ⟨congrArg Value.bool (some_inj hm), rfl⟩, hs154⟩
                ·
                  have h92p : ¬ ((((vflat ws r63.2).length) : Int) = (ws.length : Int)) := of_decide_eq_false (bnot_true h92)
                  replace hm := ite_no hm h92p
                  refine ops_set 111 (v := .bool true) (eq_bool_of (by kernel_rfl) h92) ?_
                  refine ops_set 110 (v := .bool true) (eq_bool_of (by kernel_rfl) h92) ?_
                  refine ops_run 5 (by kernel_rfl) ?_
                  refine ops_done (by kernel_rfl) ?_
                  refine hK91 _ _ ?_
                  clear hK91
                  refine W.cond_true true (by kernel_rfl) rfl ?_
                  refine W.seq fun K155 hK155 => ?_
                  refine W.region ?_
                  refine ops_run 1 (by kernel_rfl) ?_
                  refine ops_done (by kernel_rfl) ?_
                  refine hK155 _ _ ?_
                  clear hK155
                  refine W.ret (ret_seq ?_)
                  have hs156 : St B w [] w87 [] := St.take (H := []) hs89
                  refine ret_of (.bool false) (by kernel_rfl) ⟨_, ⟨congrArg Value.bool (some_inj hm), rfl⟩, hs156⟩
              ·
                refine W.seq_join (fun s_ w_ => ∃ (p157 : Bool), (∃ us, s_ = slots 166 [(0, (.slice wa ws.length wc)), (3, (.bool p77)), (9, (.int .i64 r23)), (10, (.int .i64 (i_.tmod r23))), (11, (.pointer (some ⟨b29, 0, none⟩))), (12, (.pointer (some ⟨b37, 0, none⟩))), (14, (.int .i64 p78)), (101, (.bool p157))] us) ∧ St B w [] w_ [viewA (ptr b29) ws r63.2, blk b37 (.cells [(.pointer (some ⟨b29, 0, none⟩)), (.int .i64 0), (.int .i64 r23)].toArray 151 (0, 0))] ∧ bitmapone_J5 ws i_ r23 r63 p77 p78 p157 = some true) ?_ ?_
                ·
                  rintro _ w158 ⟨p157, ⟨us, rfl⟩, hs159, hm⟩
                  unfold bitmapone_J5 at hm
                  refine W.cond p157 (by kernel_rfl) (fun h160 => ?_) (fun h160 => ?_)
                  ·
                    have h160p : p157 = true := h160
                    replace hm := ite_yes hm h160p
                    refine W.region ?_
                    refine ops_run 1 (by kernel_rfl) ?_
                    obtain ⟨h161, hm⟩ := need_some hm
                    refine ops_val (v := .int .i64 (IntKind.i64.wrap (p78 - 1))) (v' := .int .i64 (p78 - 1)) (by kernel_rfl) (congrArg (Value.int .i64) (wrap_i64 h161.1 h161.2)) ?_
                    refine ops_run 1 (by kernel_rfl) ?_
                    refine ops_done (by kernel_rfl) ?_
                    exact ⟨(p78 - 1), slots_intro _ (by kernel_rfl), hs159, hm⟩
                  ·
                    have h160p : ¬ (p157 = true) := ne_true_of_eq_false h160
                    replace hm := ite_no hm h160p
                    refine W.skip ?_
                    exact ⟨p78, slots_intro _ (by kernel_rfl), hs159, hm⟩
                ·
                  refine W.region ?_
                  refine ops_run 3 (by kernel_rfl) ?_
                  rcases Bool.eq_false_or_eq_true (!p77) with h162 | h162
                  rotate_left
                  ·
                    have h162p : p77 = true := (bnot_false h162)
                    replace hm := ite_yes hm h162p
                    refine ops_set 99 (v := .bool false) (eq_bool_of (by kernel_rfl) h162) ?_
                    refine ops_set 98 (v := .bool false) (eq_bool_of (by kernel_rfl) h162) ?_
                    refine ops_run 2 (by kernel_rfl) ?_
                    refine ops_done (by kernel_rfl) ?_
                    exact ⟨false, slots_intro _ (by kernel_rfl), hs80, hm⟩
                  ·
                    have h162p : ¬ (p77 = true) := ne_true_of_eq_false (bnot_true h162)
                    replace hm := ite_no hm h162p
                    refine ops_set 99 (v := .bool true) (eq_bool_of (by kernel_rfl) h162) ?_
                    refine ops_set 98 (v := .bool true) (eq_bool_of (by kernel_rfl) h162) ?_
                    refine ops_run 2 (by kernel_rfl) ?_
                    refine ops_done (by kernel_rfl) ?_
                    exact ⟨r50, slots_intro _ (by kernel_rfl), hs80, hm⟩
            ·
              refine W.seq_join (fun s_ w_ => ∃ (p163 : Bool) (p164 : Bool), (∃ us, s_ = slots 166 [(0, (.slice wa ws.length wc)), (3, (.bool p163)), (9, (.int .i64 r23)), (10, (.int .i64 (i_.tmod r23))), (11, (.pointer (some ⟨b29, 0, none⟩))), (12, (.pointer (some ⟨b37, 0, none⟩))), (14, (.int .i64 r44)), (15, (.bool r50)), (94, (.bool p164))] us) ∧ St B w [] w_ [viewA (ptr b29) ws r63.2, blk b37 (.cells [(.pointer (some ⟨b29, 0, none⟩)), (.int .i64 0), (.int .i64 r23)].toArray 151 (0, 0))] ∧ bitmapone_J6 ws i_ r23 r44 r50 r63 p163 p164 = some true) ?_ ?_
              ·
                rintro _ w165 ⟨p163, p164, ⟨us, rfl⟩, hs166, hm⟩
                unfold bitmapone_J6 at hm
                refine W.cond p164 (by kernel_rfl) (fun h167 => ?_) (fun h167 => ?_)
                ·
                  have h167p : p164 = true := h167
                  replace hm := ite_yes hm h167p
                  refine W.region ?_
                  refine ops_run 1 (by kernel_rfl) ?_
                  obtain ⟨h168, hm⟩ := need_some hm
                  refine ops_val (v := .int .i64 (IntKind.i64.wrap (r44 + 1))) (v' := .int .i64 (r44 + 1)) (by kernel_rfl) (congrArg (Value.int .i64) (wrap_i64 h168.1 h168.2)) ?_
                  refine ops_run 1 (by kernel_rfl) ?_
                  refine ops_done (by kernel_rfl) ?_
                  exact ⟨p163, (r44 + 1), slots_intro _ (by kernel_rfl), hs166, hm⟩
                ·
                  have h167p : ¬ (p164 = true) := ne_true_of_eq_false h167
                  replace hm := ite_no hm h167p
                  refine W.skip ?_
                  exact ⟨p163, r44, slots_intro _ (by kernel_rfl), hs166, hm⟩
              ·
                refine W.region ?_
                refine ops_run 2 (by kernel_rfl) ?_
                rcases Bool.eq_false_or_eq_true is_ with h169 | h169
                ·
                  have h169p : is_ = true := h169
                  replace hm := ite_yes hm h169p
                  refine ops_set 91 (v := .bool true) (eq_bool_of (by kernel_rfl) h169) ?_
                  refine ops_set 3 (v := .bool true) (eq_bool_of (by kernel_rfl) h169) ?_
                  refine ops_set 79 (v := .bool true) (eq_bool_of (by kernel_rfl) h169) ?_
                  refine ops_set 87 (v := .bool true) (eq_bool_of (by kernel_rfl) h169) ?_
                  refine ops_set 90 (v := .bool true) (eq_bool_of (by kernel_rfl) h169) ?_
                  refine ops_run 3 (by kernel_rfl) ?_
                  refine ops_done (by kernel_rfl) ?_
                  have hs170 : St B w [] w73 [viewA (ptr b29) ws r63.2, blk b37 (.cells [(.pointer (some ⟨b29, 0, none⟩)), (.int .i64 0), (.int .i64 r23)].toArray 151 (0, 0))] := hs75.front 1 (by simp)
                  exact ⟨true, (!r50), slots_intro _ (by kernel_rfl), hs170, hm⟩
                ·
                  have h169p : ¬ (is_ = true) := ne_true_of_eq_false h169
                  replace hm := ite_no hm h169p
                  refine ops_set 91 (v := .bool false) (eq_bool_of (by kernel_rfl) h169) ?_
                  refine ops_set 3 (v := .bool false) (eq_bool_of (by kernel_rfl) h169) ?_
                  refine ops_set 79 (v := .bool false) (eq_bool_of (by kernel_rfl) h169) ?_
                  refine ops_set 87 (v := .bool false) (eq_bool_of (by kernel_rfl) h169) ?_
                  refine ops_set 90 (v := .bool false) (eq_bool_of (by kernel_rfl) h169) ?_
                  refine ops_run 3 (by kernel_rfl) ?_
                  refine ops_done (by kernel_rfl) ?_
                  have hs171 : St B w [] w73 [viewA (ptr b29) ws r63.2, blk b37 (.cells [(.pointer (some ⟨b29, 0, none⟩)), (.int .i64 0), (.int .i64 r23)].toArray 151 (0, 0))] := hs75.front 1 (by simp)
                  exact ⟨false, false, slots_intro _ (by kernel_rfl), hs171, hm⟩
          ·
            have h76p : ¬ ((r71 = true) ↔ (is_ = true)) := beq_no Iff.rfl Iff.rfl (bnot_true h76)
            replace hm := ite_no hm h76p
            refine W.seq fun K172 hK172 => ?_
            refine W.region ?_
            refine ops_run 1 (by kernel_rfl) ?_
            refine ops_done (by kernel_rfl) ?_
            refine hK172 _ _ ?_
            clear hK172
            refine W.ret (ret_seq ?_)
            have hs173 : St B w [] w73 [] := St.take (H := []) hs75
            refine ret_of (.bool false) (by kernel_rfl) ⟨_, ⟨congrArg Value.bool (some_inj hm), rfl⟩, hs173⟩
        ·
          have h70p : ¬ (r63.1 = 0) := of_decide_eq_false (bnot_true h70)
          replace hm := ite_no hm h70p
          refine ops_set 83 (v := .bool true) (eq_bool_of (by kernel_rfl) h70) ?_
          refine ops_set 81 (v := .bool true) (eq_bool_of (by kernel_rfl) h70) ?_
          refine ops_set 82 (v := .bool true) (eq_bool_of (by kernel_rfl) h70) ?_
          refine ops_run 6 (by kernel_rfl) ?_
          refine ops_done (by kernel_rfl) ?_
          refine hK56 _ _ ?_
          clear hK56
          refine W.cond_true true (by kernel_rfl) rfl ?_
          refine W.seq fun K174 hK174 => ?_
          refine W.region ?_
          refine ops_run 1 (by kernel_rfl) ?_
          refine ops_done (by kernel_rfl) ?_
          refine hK174 _ _ ?_
          clear hK174
          refine W.ret (ret_seq ?_)
          have hs175 : St B w [] w67 [] := St.take (H := []) hs69
          refine ret_of (.bool false) (by kernel_rfl) ⟨_, ⟨congrArg Value.bool (some_inj hm), rfl⟩, hs175⟩
      ·
        have h62p : ¬ ((r50 = true) ↔ ((shrK .u64 (ws.getD (((i_.tmod r23).tdiv 64).toNat) 0) ((i_.tmod r23).tmod 64)).tmod 2 = 1)) := beq_no Iff.rfl decide_eq_true_iff (bnot_true h62)
        replace hm := ite_no hm h62p
        refine ops_set 76 (v := .bool true) (eq_bool_of (by kernel_rfl) h62) ?_
        refine ops_set 75 (v := .bool true) (eq_bool_of (by kernel_rfl) h62) ?_
        refine ops_run 13 (by kernel_rfl) ?_
        refine ops_done (by kernel_rfl) ?_
        refine hK56 _ _ ?_
        clear hK56
        refine W.cond_true true (by kernel_rfl) rfl ?_
        refine W.seq fun K176 hK176 => ?_
        refine W.region ?_
        refine ops_run 1 (by kernel_rfl) ?_
        refine ops_done (by kernel_rfl) ?_
        refine hK176 _ _ ?_
        clear hK176
        refine W.ret (ret_seq ?_)
        have hs177 : St B w [] w52 [] := St.take (H := []) hs54
        refine ret_of (.bool false) (by kernel_rfl) ⟨_, ⟨congrArg Value.bool (some_inj hm), rfl⟩, hs177⟩

end Go.Proofs.YthimamnblklkbaaDoor
